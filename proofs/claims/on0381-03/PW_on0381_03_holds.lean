import PyProof.Rows.All
import Wide.All
import OpenK.AllK
import Wide.FinOn
import PyProof.SliceMore
import PyProof.ZipIter
import KE.KDictLaws
import PyProof.DictWalks
import PyProof.Rows.DictUnroll
import PyProof.AutoIntOps
import PyProof.AutoSeq1
import PyProof.WalkInts
import Flt.Ops
import KE.KItemsList
import PyProof.CollectWalk
import PyProof.ListNew
import PyProof.NeKinds
import PySem.Challenge.RW_on0381_03
set_option Elab.async false
set_option linter.unusedVariables false
set_option linter.deprecated false
set_option maxRecDepth 100000
set_option maxHeartbeats 8000000
set_option compiler.extract_closed false
namespace Mine
open PySem PySem.Spec PySem.Calls PyProof.Rows PySem.W PySem.SeqAt
def aN (k : _root_.Lean.Name) (a : Array _root_.Lean.Syntax) : _root_.Lean.Syntax := .node .none k a
def aA (x : String) : _root_.Lean.Syntax := .atom .none x
def aQ (a : Array _root_.Lean.Syntax) : _root_.Lean.Syntax := aN `Lean.Parser.Tactic.tacticSeq #[aN `Lean.Parser.Tactic.tacticSeq1Indented #[aN `null a]]
def aF : _root_.Lean.Syntax := aN `Lean.Parser.Tactic.tacticRfl #[aA "rfl"]
def aR : _root_.Lean.Syntax := aQ #[aF]
def aD : _root_.Lean.Syntax := aQ #[aN `Lean.Parser.Tactic.decide #[aA "decide", aN `Lean.Parser.Tactic.optConfig #[aN `null #[]]]]
def aI : _root_.Lean.Syntax := aQ #[aN `Lean.Parser.Tactic.intro #[aA "intro", aN `null #[aN `Lean.Parser.Term.hole #[aA "_"]]], aA ";", aF]
def aW : _root_.Lean.Syntax := aQ #[aN `Lean.Parser.Tactic.withUnfoldingAll #[aA "with_unfolding_all", aR]]
local macro_rules | `(tactic| one_sign) => `(tactic| first | exact Nat.le_of_ble_eq_true rfl | exact Nat.add_le_add_left (Nat.le_of_ble_eq_true rfl) _ | exact Nat.le_add_left_of_le (Nat.le_of_ble_eq_true rfl) | lia | omega)
section
set_option tactic.hygienic false
inductive D where
 | none
 | bool (b : Bool)
 | int (i : Int)
 | str (s : Str)
 | tup (l : List D)
 | ref (a : Addr)
 | bi (id : String)
 | ty (n : String)
 | rng (lo hi : Int)
noncomputable def imm (o : Obj) : Bool := match o.data with
 | .seq _ _ => o.cls == .type "tuple"
 | .fields _ => o.cls == .type "range"
 | _ => false
noncomputable def TupKeep (h h' : Heap) : Prop := ∀ a o, h.get? a = some o → imm o = true → h'.get? a = some o
theorem TupKeep.refl (h : Heap) : TupKeep h h := fun _ _ e _ => e
theorem TupKeep.trans {h h' h'' : Heap} (x : TupKeep h h') (y : TupKeep h' h'') : TupKeep h h'' := fun a o e q => y a o (x a o e q) q
theorem TupKeep.keeps {h h' : Heap} (k : ∀ b o, h.get? b = some o → h'.get? b = some o) : TupKeep h h' := fun a o e _ => k a o e
theorem TupKeep.tup {h h' : Heap} (k : TupKeep h h') {a : Addr} {vs : Array Value} (t : IsTup h a vs) : IsTup h' a vs :=
 let ⟨o, h1, h2, n, h3⟩ := t; ⟨o, k a o h1 (by unfold imm; rw [h3, h2]; exact beq_self_eq_true _), h2, n, h3⟩
theorem TupKeep.rng {h h' : Heap} (k : TupKeep h h') {a : Addr} {lo hi c : Int} {t u v : Tok} (r : IsRange h a lo hi c t u v) : IsRange h' a lo hi c t u v := k a _ r (by unfold imm; exact beq_self_eq_true _)
inductive X where
 | lst (l : List D)
 | dct (l : List (D × D))
 | ins (C dx : Addr)
 | ns (m : Str → Option D)
 | cel (d : Option D)
 | raw (P : Heap → Obj → Prop) (hP : ∀ h h' o, TupKeep h h' → P h o → P h' o)
noncomputable abbrev Loc := Str → Option D
noncomputable abbrev Hp := Addr → Option X
noncomputable def Hp.set (H : Hp) (a : Addr) (x : X) : Hp := fun b => if b = a then some x else H b
noncomputable def lset (m : Loc) (k : Str) (d : D) : Loc := fun y => if y = k then some d else m y
theorem Hp.set_self (H : Hp) (a : Addr) (x : X) : (H.set a x) a = some x := if_pos rfl
theorem Hp.set_ne (H : Hp) {a b : Addr} (x : X) (h : b ≠ a) : (H.set a x) b = H b := if_neg h
theorem Hp.set_set (H : Hp) (a : Addr) (x y : X) : (H.set a x).set a y = H.set a y := by
 funext b; unfold Hp.set; by_cases h : b = a <;> simp [h]
theorem Hp.set_comm (H : Hp) {a b : Addr} (x y : X) (h : a ≠ b) : (H.set a x).set b y = (H.set b y).set a x := by
 funext c; unfold Hp.set; by_cases h1 : c = a <;> by_cases h2 : c = b <;> simp_all
mutual
inductive Is (h : Heap) : Value → D → Prop
 | none : Is h .none .none
 | bool (b : Bool) : Is h (.bool b) (.bool b)
 | int (i : Int) (t : Tok) : Is h (.int i t) (.int i)
 | str (s : Str) (t : Tok) : Is h (.str s t) (.str s)
 | tup {a : Addr} {vs : List Value} {l : List D} : IsTup h a vs.toArray → IsL h vs l → Is h (.ref a) (.tup l)
 | ref (a : Addr) : Is h (.ref a) (.ref a)
 | bi (id : String) : Is h (.builtin id) (.bi id)
 | ty (n : String) : Is h (.type n) (.ty n)
 | rng {a : Addr} {lo hi : Int} {t u v : Tok} : IsRange h a lo hi 1 t u v → Is h (.ref a) (.rng lo hi)
inductive IsL (h : Heap) : List Value → List D → Prop
 | nil : IsL h [] []
 | cons {v : Value} {d : D} {vs : List Value} {l : List D} : Is h v d → IsL h vs l → IsL h (v :: vs) (d :: l)
end
noncomputable def IsI (h : Heap) (v : Value) : D → Prop
 | .none => v = .none
 | .bool b => v = .bool b
 | .int i => ∃ t, v = .int i t
 | .str s => ∃ t, v = .str s t
 | .tup l => ∃ (a : Addr) (vs : List Value), v = .ref a ∧ IsTup h a vs.toArray ∧ IsL h vs l
 | .ref a => v = .ref a
 | .bi id => v = .builtin id
 | .ty n => v = .type n
 | .rng lo hi => ∃ (a : Addr) (t u w : Tok), v = .ref a ∧ IsRange h a lo hi 1 t u w
theorem Is.inv {h : Heap} {v : Value} {d : D} (i : Is h v d) : IsI h v d :=
 Is.casesOn (motive_1 := fun v d _ => IsI h v d) i rfl (fun _ => rfl) (fun _ t => ⟨t, rfl⟩) (fun _ t => ⟨t, rfl⟩) (fun x y => ⟨_, _, rfl, x, y⟩) (fun _ => rfl) (fun _ => rfl) (fun _ => rfl) (fun r => ⟨_, _, _, _, rfl, r⟩)
noncomputable def ILI (h : Heap) (vs : List Value) : List D → Prop
 | [] => vs = []
 | d :: l => ∃ (v : Value) (ws : List Value), vs = v :: ws ∧ Is h v d ∧ IsL h ws l
theorem IsL.inv {h : Heap} {vs : List Value} {l : List D} (i : IsL h vs l) : ILI h vs l :=
 IsL.casesOn (motive_2 := fun vs l _ => ILI h vs l) i rfl (fun x y => ⟨_, _, rfl, x, y⟩)
theorem IsL.cinv {h : Heap} {v : Value} {vs : List Value} : ∀ {l : List D}, IsL h (v :: vs) l → ∃ d l', l = d :: l' ∧ Is h v d ∧ IsL h vs l'
 | [], i => by cases i.inv
 | d :: l, i => let ⟨_, _, e, a, b⟩ := i.inv; ⟨d, l, rfl, by cases e; exact a, by cases e; exact b⟩
theorem IsL.ind {h : Heap} {P : List Value → List D → Prop} (n : P [] []) (c : ∀ {v d vs l}, Is h v d → IsL h vs l → P vs l → P (v :: vs) (d :: l)) {vs : List Value} {l : List D} (i : IsL h vs l) : P vs l :=
 IsL.rec (motive_1 := fun _ _ _ => True) (motive_2 := fun vs l _ => P vs l) trivial (fun _ => trivial) (fun _ _ => trivial) (fun _ _ => trivial) (fun _ _ _ => trivial) (fun _ => trivial) (fun _ => trivial) (fun _ => trivial) (fun _ => trivial) n (fun x y _ z => c x y z) i
theorem Is.mono {h h' : Heap} (k : TupKeep h h') {v : Value} {d : D} (i : Is h v d) : Is h' v d :=
 Is.rec (motive_1 := fun v d _ => Is h' v d) (motive_2 := fun vs l _ => IsL h' vs l) .none .bool .int .str (fun e _ l => .tup (k.tup e) l) .ref .bi .ty (fun r => .rng (k.rng r)) .nil (fun _ _ => .cons) i
theorem IsL.mono {h h' : Heap} (k : TupKeep h h') {vs : List Value} {l : List D} (i : IsL h vs l) : IsL h' vs l :=
 i.ind .nil fun x _ z => .cons (x.mono k) z
theorem IsL.length {h : Heap} {vs : List Value} {l : List D} (z0 : IsL h vs l) : vs.length = l.length :=
 z0.ind (P := fun vs l => vs.length = l.length) rfl fun _ _ z => congrArg (· + 1) z
theorem IsL.append {h : Heap} {vs vs' : List Value} {l l' : List D} (z0 : IsL h vs l) (x : IsL h vs' l') : IsL h (vs ++ vs') (l ++ l') :=
 z0.ind (P := fun vs l => IsL h (vs ++ vs') (l ++ l')) x fun a _ z => .cons a z
theorem IsL.get {h : Heap} {vs : List Value} {l : List D} (z0 : IsL h vs l) : ∀ {i : Nat} {d : D}, l[i]? = some d → ∃ v, vs[i]? = some v ∧ Is h v d :=
 z0.ind (P := fun vs l => ∀ {i : Nat} {d : D}, l[i]? = some d → ∃ v, vs[i]? = some v ∧ Is h v d) (fun e => by cases e) (@fun v _ _ _ a _ z i d => match i with
  | 0 => fun e => ⟨v, rfl, Option.some.inj e ▸ a⟩
  | i + 1 => fun e => z (i := i) e)
theorem IsL.set {h : Heap} {vs : List Value} {l : List D} (z0 : IsL h vs l) : ∀ {i : Nat} {v : Value} {d : D}, Is h v d → IsL h (vs.set i v) (l.set i d) :=
 z0.ind (P := fun vs l => ∀ {i : Nat} {v : Value} {d : D}, Is h v d → IsL h (vs.set i v) (l.set i d)) (fun _ => .nil) (@fun _ _ _ _ a b z i _ _ e => match i with
  | 0 => .cons e b
  | _ + 1 => .cons a (z e))
theorem IsL.reverse {h : Heap} {vs : List Value} {l : List D} (z0 : IsL h vs l) : IsL h vs.reverse l.reverse :=
 z0.ind (P := fun vs l => IsL h vs.reverse l.reverse) .nil fun a _ z => by rw [List.reverse_cons, List.reverse_cons]; exact z.append (.cons a .nil)
inductive Ent (P : Params) (h : Heap) : List DictEntry → List (D × D) → Prop
 | nil : Ent P h [] []
 | str {e : DictEntry} {s : Str} {t : Tok} {d : D} {es : List DictEntry} {l : List (D × D)} : e.key = .str s t → e.hash = PyData.keyHash P s → Is h e.val d → Ent P h es l → Ent P h (e :: es) ((.str s, d) :: l)
 | int {e : DictEntry} {i : Int} {t : Tok} {d : D} {es : List DictEntry} {l : List (D × D)} : e.key = .int i t → e.hash = hashInt i → Is h e.val d → Ent P h es l → Ent P h (e :: es) ((.int i, d) :: l)
theorem Ent.mono {P : Params} {h h' : Heap} (k : TupKeep h h') {es : List DictEntry} {l : List (D × D)} (i : Ent P h es l) : Ent P h' es l :=
 Ent.rec (motive := fun es l _ => Ent P h' es l) .nil (fun a b c _ z => .str a b (c.mono k) z) (fun a b c _ z => .int a b (c.mono k) z) i
noncomputable def Rep (P : Params) (h : Heap) (a : Addr) : X → Prop
 | .lst l => ∃ vs : List Value, h.PlainList a vs.toArray ∧ IsL h vs l
 | .dct l => ∃ (o : Obj) (es : List DictEntry) (n : Nat), h.get? a = some o ∧ o.ExactDict ∧ o.data = .dict es.toArray n ∧ Ent P h es l
 | .ins C dx => h.get? a = some (instObj C dx)
 | .ns m => ∃ mv, h.Ns a mv ∧ ∀ x d, m x = some d → ∃ v, mv x = some v ∧ Is h v d
 | .cel d => ∃ v, h.IsCell a v ∧ ∀ d', d = some d' → ∃ v', v = some v' ∧ Is h v' d'
 | .raw P _ => ∃ o, h.get? a = some o ∧ imm o = false ∧ P h o
theorem Rep.root {P : Params} {h : Heap} {a : Addr} {x : X} (r : Rep P h a x) : ∃ o, h.get? a = some o ∧ imm o = false := by
 cases x with
 | lst l => obtain ⟨vs, ⟨n, h1⟩, _⟩ := r; exact ⟨_, h1, (by decide : (Value.type "list" == Value.type "tuple") = false)⟩
 | dct l => obtain ⟨o, es, n, h1, h2, h3, _⟩ := r; exact ⟨o, h1, by unfold imm; rw [h3]⟩
 | ins C dx => exact ⟨_, r, rfl⟩
 | ns m => obtain ⟨mv, ⟨o, es, ep, h1, h2, _⟩, _⟩ := r; exact ⟨o, h1, by unfold imm; rw [h2]⟩
 | cel d => obtain ⟨v, ⟨o, h1, h2⟩, _⟩ := r; exact ⟨o, h1, by unfold imm; rw [h2]⟩
 | raw P hP => obtain ⟨o, h1, h2, _⟩ := r; exact ⟨o, h1, h2⟩
theorem Rep.move {P : Params} {h h' : Heap} {a : Addr} {x : X} (r : Rep P h a x) (k : TupKeep h h') (e : ∀ o, h.get? a = some o → h'.get? a = some o) : Rep P h' a x := by
 cases x with
 | lst l => obtain ⟨vs, ⟨n, h1⟩, r2⟩ := r; exact ⟨vs, ⟨n, e _ h1⟩, r2.mono k⟩
 | dct l => obtain ⟨o, es, n, h1, h2, h3, h4⟩ := r; exact ⟨o, es, n, e _ h1, h2, h3, h4.mono k⟩
 | ins C dx => exact e _ r
 | ns m => obtain ⟨mv, ⟨o, es, ep, h1, h2⟩, h3⟩ := r; exact ⟨mv, ⟨o, es, ep, e _ h1, h2⟩, fun x d q => let ⟨v, a, b⟩ := h3 x d q; ⟨v, a, b.mono k⟩⟩
 | cel d => obtain ⟨v, ⟨o, h1, h2⟩, h3⟩ := r; exact ⟨v, ⟨o, e _ h1, h2⟩, fun d' q => let ⟨v', a, b⟩ := h3 d' q; ⟨v', a, b.mono k⟩⟩
 | raw P hP => obtain ⟨o, h1, h2, h3⟩ := r; exact ⟨o, e _ h1, h2, hP _ _ _ k h3⟩
structure Gd where
 prog : Program
 w : World
 K : Frag
 p : Program
 loose : List Str
 mg : Str → Option Value
 mb : Str → Option Value
 sc : Addr
 si : List Int
structure TopOk (G : Gd) (B : Heap) : Prop where
 k : G.K.In B
 t : TopRead G.p G.loose G.mg G.mb B
 s : ∃ vs : List Value, B.IsList G.sc vs.toArray ∧ IntsAre vs G.si
theorem TopOk.keeps {G : Gd} {B B' : Heap} (T : TopOk G B) (k : ∀ b o, B.get? b = some o → B'.get? b = some o) : TopOk G B' := ⟨T.k.keeps k, T.t.keeps k, let ⟨vs, a, b⟩ := T.s; ⟨vs, a.at fun o e => k _ o e, b⟩⟩
structure Sat (G : Gd) (B : Heap) (H : Hp) (h : Heap) : Prop where
 keep : ∀ b o, B.get? b = some o → h.get? b = some o
 own : ∀ a x, H a = some x → B.get? a = none ∧ Rep G.w.params h a x
 low : ∃ b o, sysModules < b ∧ B.get? b = some o
 off : ∀ a x, H a = some x → (a == sysModules) = false
section
variable {G : Gd} {B : Heap} {H : Hp} {h h' : Heap} {a : Addr} {x x' : X}
theorem Sat.keeps (S : Sat G B H h) (k : ∀ b o, h.get? b = some o → h'.get? b = some o) : Sat G B H h' :=
 ⟨fun b o e => k b o (S.keep b o e), fun a x e => ⟨(S.own a x e).1, (S.own a x e).2.move (.keeps k) (k a)⟩, S.low, S.off⟩
theorem Sat.tupBut (S : Sat G B H h) (e : H a = some x) (hs : Heap.SameBut a h h') : TupKeep h h' := fun b o t q => by
 by_cases z : b = a
 ·subst z
  obtain ⟨o', h1, h2⟩ := (S.own b x e).2.root
  rw [t] at h1; cases h1; rw [q] at h2; cases h2
 ·exact (hs.2 b z).trans t
theorem Sat.upd (S : Sat G B H h) (e : H a = some x) (hs : Heap.SameBut a h h') (r : Rep G.w.params h' a x') : Sat G B (H.set a x') h' := by
 have k := S.tupBut e hs
 have ha := (S.own a x e).1
 refine ⟨fun b o q => (hs.2 b fun z => ?_).trans (S.keep b o q), fun b y q => ?_, S.low, fun b y q => ?_⟩
 ·subst z; rw [ha] at q; cases q
 ·by_cases z : b = a
  ·subst z; rw [Hp.set_self] at q; cases q; exact ⟨ha, r⟩
  ·rw [Hp.set_ne _ _ z] at q
   exact ⟨(S.own b y q).1, (S.own b y q).2.move k fun o e => (hs.2 b z).trans e⟩
 ·by_cases z : b = a
  ·subst z; exact S.off b x e
  ·rw [Hp.set_ne _ _ z] at q; exact S.off b y q
theorem Sat.lt (S : Sat G B H h) (e : H a = some x) : a < h.objs.size := (S.own a x e).2.root.elim fun _ q => Heap.lt_size q.1
theorem Sat.fresh (S : Sat G B H h) (l : h.objs.size ≤ a) : H a = none := by
 cases q : H a with
 | none => rfl
 | some x => exact absurd (S.lt q) (Nat.not_lt.mpr l)
theorem Sat.baseFresh (S : Sat G B H h) (l : h.objs.size ≤ a) : B.get? a = none := by
 cases q : B.get? a with
 | none => rfl
 | some o => exact absurd (Heap.lt_size (S.keep _ _ q)) (Nat.not_lt.mpr l)
theorem Sat.new (S : Sat G B H h) (k : ∀ b o, h.get? b = some o → h'.get? b = some o) (l : h.objs.size ≤ a) (r : Rep G.w.params h' a x) : Sat G B (H.set a x) h' := by
 refine ⟨fun b o q => k _ _ (S.keep b o q), fun b y q => ?_, S.low, fun b y q => ?_⟩
 by_cases z : b = a
 ·subst z; rw [Hp.set_self] at q; cases q; exact ⟨S.baseFresh l, r⟩
 ·rw [Hp.set_ne _ _ z] at q; exact (S.keeps k).own b y q
 ·by_cases z : b = a
  ·subst z
   obtain ⟨c, o, h1, h2⟩ := S.low
   have := Heap.lt_size (S.keep _ _ h2)
   exact beq_eq_false_iff_ne.mpr (Nat.ne_of_gt (Nat.lt_of_lt_of_le (Nat.lt_trans h1 this) l))
  ·rw [Hp.set_ne _ _ z] at q; exact S.off b y q
theorem Sat.forget {H' : Hp} (S : Sat G B H h) (k : ∀ a x, H' a = some x → H a = some x) : Sat G B H' h := ⟨S.keep, fun a x e => S.own a x (k a x e), S.low, fun a x e => S.off a x (k a x e)⟩
noncomputable def cut (p : Addr → Bool) (h : Heap) : Heap := ⟨h.objs.mapIdx fun i o => if p i then o else { o with data := .freed }, h.life⟩
theorem cut_get (p : Addr → Bool) (h : Heap) (b : Addr) : (cut p h).get? b = if p b then h.get? b else none := by
 unfold cut Heap.get?
 simp only [Array.getElem?_mapIdx]
 cases q : h.objs[b]? with
 | none => simp
 | some o => by_cases hp : p b = true <;> simp [hp]
theorem Sat.rebase (S : Sat G B (H.set a x) h) (ha : H a = none) (T : TopOk G B) : ∃ B', TopOk G B' ∧ Sat G B' H h ∧
  ∀ H' h', Sat G B' H' h' → TupKeep h h' → H' a = none ∧ Sat G B (H'.set a x) h' := by
 have own := S.own a x (Hp.set_self ..)
 obtain ⟨o, ho, _⟩ := own.2.root
 let B' := cut (fun b => (B.get? b).isSome || b == a) h
 have hB : ∀ b, B'.get? b = if ((B.get? b).isSome || b == a) then h.get? b else none := fun b => cut_get _ _ _
 have kB : ∀ b o, B.get? b = some o → B'.get? b = some o := fun b o e => by
  rw [hB, e]; simp only [Option.isSome_some, Bool.true_or, if_true]; exact S.keep b o e
 have aB : B'.get? a = some o := by rw [hB]; simp [ho]
 obtain ⟨lb, lo, l1, l2⟩ := S.low
 refine ⟨B', T.keeps kB, ⟨fun b o e => ?_, fun b y e => ?_, ⟨lb, lo, l1, kB _ _ l2⟩, fun b y e => ?_⟩, fun H' h' S' k => ⟨?_, fun b o e => S'.keep b o (kB b o e), fun b y e => ?_, S.low, fun b y e => ?_⟩⟩
 ·rw [hB] at e; split at e
  ·exact e
  ·cases e
 ·have ne : b ≠ a := fun z => by subst z; rw [ha] at e; cases e
  have z := S.own b y (by rw [Hp.set_ne _ _ ne]; exact e)
  exact ⟨by rw [hB, z.1]; simp [ne], z.2⟩
 ·have ne : b ≠ a := fun z => by subst z; rw [ha] at e; cases e
  exact S.off b y (by rw [Hp.set_ne _ _ ne]; exact e)
 ·cases q : H' a with
  | none => rfl
  | some y => have := (S'.own a y q).1; rw [aB] at this; cases this
 ·by_cases z : b = a
  ·subst z; rw [Hp.set_self] at e; cases e
   exact ⟨own.1, own.2.move k fun o' q => by rw [ho] at q; cases q; exact S'.keep _ _ aB⟩
  ·rw [Hp.set_ne _ _ z] at e
   refine ⟨?_, (S'.own b y e).2⟩
   cases q : B.get? b with
   | none => rfl
   | some o' => have := (S'.own b y e).1; rw [kB _ _ q] at this; cases this
 ·by_cases z : b = a
  ·subst z; exact S.off b x (Hp.set_self ..)
  ·rw [Hp.set_ne _ _ z] at e; exact S'.off b y e
end
structure Ok (A : Around) (n : Nat) : Prop where
 handled : A.handled = none
 depth : A.depth + n < recursionLimit
 units : A.units + 20 * n < cLine
theorem Ok.le {A : Around} {n k : Nat} (O : Ok A n) (h : k ≤ n) : Ok A k := ⟨O.handled, by have := O.depth; one_sign, by have := O.units; one_sign⟩
structure Step (s s' : Shared) : Prop where
 gens : s'.gens = s.gens
 drawn : s'.drawn = s.drawn
 os : s'.os = s.os
 tup : TupKeep s.heap s'.heap
theorem Step.refl (s : Shared) : Step s s := ⟨rfl, rfl, rfl, .refl _⟩
theorem Step.trans {s s' s'' : Shared} (x : Step s s') (y : Step s' s'') : Step s s'' := ⟨y.gens.trans x.gens, y.drawn.trans x.drawn, y.os.trans x.os, x.tup.trans y.tup⟩
theorem Step.mk' {s : Shared} {h : Heap} {t : Nat} (k : TupKeep s.heap h) : Step s { s with heap := h, toks := t } := ⟨rfl, rfl, rfl, k⟩
theorem Step.tok {s : Shared} {t : Nat} : Step s { s with toks := t } := ⟨rfl, rfl, rfl, .refl _⟩
theorem Step.hp {s : Shared} {h : Heap} (k : TupKeep s.heap h) : Step s { s with heap := h } := ⟨rfl, rfl, rfl, k⟩
inductive Got {α β : Type} (R : Heap → α → β → Prop) (G : Gd) (B : Heap) (s : Shared) (Q : β → Hp → Prop) (v : α) (s' : Shared) : Prop
 | mk (d : β) (H' : Hp) (r : R s'.heap v d) (S : Sat G B H' s'.heap) (st : Step s s') (q : Q d H')
noncomputable def At {α β : Type} (R : Heap → α → β → Prop) (G : Gd) (n : Nat) (H : Hp) (s : Shared) (t : Sem α) (Q : β → Hp → Prop) : Prop :=
 ∀ B A, TopOk G B → Ok A n → Sat G B H s.heap → wpAny (model G.prog G.w) A t (Got R G B s Q) (fun _ _ => False) s
inductive FrQ {β : Type} (L : Addr) (x : X) (Q : β → Hp → Prop) (d : β) (H' : Hp) : Prop
 | mk (H'' : Hp) (e : H' = H''.set L x) (n : H'' L = none) (q : Q d H'')
noncomputable abbrev Same {α : Type} (_ : Heap) (a b : α) : Prop := a = b
section
variable {α β γ δ : Type} {R : Heap → α → β → Prop} {R' : Heap → γ → δ → Prop} {G : Gd} {n k : Nat} {H : Hp} {s : Shared} {t : Sem α} {Q Q' : β → Hp → Prop}
theorem At.mono (h : At R G n H s t Q) (q : ∀ d H', Q d H' → Q' d H') : At R G n H s t Q' := fun B A T O S =>
 wpAny_mono (h B A T O S) (fun _ _ ⟨d, H', a, b, c, e⟩ => ⟨d, H', a, b, c, q _ _ e⟩) fun _ _ z => z
theorem At.le (h : At R G k H s t Q) (q : k ≤ n) : At R G n H s t Q := fun B A T O S => h B A T (O.le q) S
theorem At.frame {L : Addr} {x : X} (hL : H L = none) (h : At R G n H s t Q) : At R G n (H.set L x) s t (FrQ L x Q) := fun B A T O S => by
 obtain ⟨B', T', S', back⟩ := S.rebase hL T
 refine wpAny_mono (h B' A T' O S') (fun v s' ⟨d, H', a, b, c, e⟩ => ?_) fun _ _ z => z
 obtain ⟨h1, h2⟩ := back H' s'.heap b c.tup
 exact ⟨d, _, a, h2, c, H', rfl, h1, e⟩
end
end
set_option genInjectivity false
set_option genSizeOf false
section
set_option tactic.hygienic false
noncomputable abbrev FQ {β : Type} (L : Addr) (m : Loc) (Q : β → Hp → Prop) : β → Hp → Prop := FrQ L (.ns m) Q
noncomputable def Ev (G : Gd) (n : Nat) (env : Env) (m : Loc) (H : Hp) (e : Expr) (Q : D → Hp → Prop) : Prop :=
 ∀ s, H env.locals = none → At Is G n (H.set env.locals (.ns m)) s (eval e env) (FQ env.locals m Q)
noncomputable def EvB (G : Gd) (n : Nat) (env : Env) (m : Loc) (H : Hp) (e : Expr) (Q : Bool → Hp → Prop) : Prop :=
 ∀ s, H env.locals = none → At Same G n (H.set env.locals (.ns m)) s (isTrue e env (eval e env)) (FQ env.locals m Q)
noncomputable def EvL (G : Gd) (n : Nat) (env : Env) (m : Loc) (H : Hp) (pos : Pos) (es : List Expr) (Q : List D → Hp → Prop) : Prop :=
 ∀ s, H env.locals = none → At IsL G n (H.set env.locals (.ns m)) s (spliced (backTo pos (starEach es env))) (FQ env.locals m Q)
noncomputable def Bin (G : Gd) (n : Nat) (H : Hp) (op : Operator) (d1 d2 : D) (Q : D → Hp → Prop) : Prop := ∀ s v1 v2, Is s.heap v1 d1 → Is s.heap v2 d2 → At Is G n H s (binaryOp op v1 v2) Q
noncomputable def Una (G : Gd) (n : Nat) (H : Hp) (op : UnaryOp) (d : D) (Q : D → Hp → Prop) : Prop := ∀ s v, Is s.heap v d → At Is G n H s (unaryOp op v) Q
noncomputable def Cmp (G : Gd) (n : Nat) (H : Hp) (op : CmpOp) (d1 d2 : D) (Q : D → Hp → Prop) : Prop := ∀ s v1 v2, Is s.heap v1 d1 → Is s.heap v2 d2 → At Is G n H s (compareOp op v1 v2) Q
noncomputable def Tru (G : Gd) (n : Nat) (H : Hp) (d : D) (Q : Bool → Hp → Prop) : Prop := ∀ s v, Is s.heap v d → At Same G n H s (truthy v) Q
noncomputable def Get (G : Gd) (n : Nat) (H : Hp) (d : D) (name : Str) (Q : D → Hp → Prop) : Prop := ∀ s v, Is s.heap v d → At Is G n H s (getAttr v name true) Q
noncomputable def Item (G : Gd) (n : Nat) (H : Hp) (d1 d2 : D) (Q : D → Hp → Prop) : Prop := ∀ (value slice : Expr) s v1 v2, Is s.heap v1 d1 → Is s.heap v2 d2 → At Is G n H s (subscriptTail value slice v1 v2) Q
noncomputable def Cal (G : Gd) (n : Nat) (H : Hp) (f : Value) (ds : List D) (Q : D → Hp → Prop) : Prop := ∀ s vs, IsL s.heap vs ds → At Is G n H s (call f vs) Q
section
variable {G : Gd} {n : Nat} {env : Env} {m : Loc} {H : Hp} {Q : D → Hp → Prop} {QB : Bool → Hp → Prop} {QL : List D → Hp → Prop}
theorem Ev.mono {e : Expr} {Q' : D → Hp → Prop} (h : Ev G n env m H e Q) (q : ∀ d H', Q d H' → Q' d H') : Ev G n env m H e Q' :=
 fun s hL => (h s hL).mono fun d _ ⟨H'', a, b, c⟩ => ⟨H'', a, b, q _ _ c⟩
theorem EvB.mono {e : Expr} {Q' : Bool → Hp → Prop} (h : EvB G n env m H e QB) (q : ∀ d H', QB d H' → Q' d H') : EvB G n env m H e Q' :=
 fun s hL => (h s hL).mono fun d _ ⟨H'', a, b, c⟩ => ⟨H'', a, b, q _ _ c⟩
theorem EvL.mono {pos : Pos} {es : List Expr} {Q' : List D → Hp → Prop} (h : EvL G n env m H pos es QL) (q : ∀ d H', QL d H' → Q' d H') : EvL G n env m H pos es Q' :=
 fun s hL => (h s hL).mono fun d _ ⟨H'', a, b, c⟩ => ⟨H'', a, b, q _ _ c⟩
theorem Ev.cnone {k pos} (q : Q .none H) : Ev G n env m H (.Constant .none k pos) Q := fun s hL B A T O S =>
 Constant_none ⟨_, _, .none, S, .refl _, H, rfl, hL, q⟩
theorem Ev.cbool {b k pos} (q : Q (.bool b) H) : Ev G n env m H (.Constant (.bool b) k pos) Q := fun s hL B A T O S =>
 Constant_bool ⟨_, _, .bool b, S, .refl _, H, rfl, hL, q⟩
theorem Ev.cint {i k pos} (q : Q (.int i) H) : Ev G n env m H (.Constant (.int i) k pos) Q := fun s hL B A T O S =>
 wpAny_Constant_int ⟨_, _, .int i _, S, .tok, H, rfl, hL, q⟩
theorem Ev.cstr {x k pos} (q : Q (.str x) H) : Ev G n env m H (.Constant (.str x) k pos) Q := fun s hL B A T O S =>
 Calls.Constant_str ⟨_, _, .str x _, S, .tok, H, rfl, hL, q⟩
theorem Ev.loc {x pos d} (hv : m x = some d) (q : Q d H) (hk : autoParam (env.scope.kind = .function) aR) (hx : autoParam (env.kindOf x = some .local) aR) (hd : autoParam ((x == ("__debug__" : Str)) = false) aD) :
  Ev G n env m H (.Name x pos) Q := fun s hL B A T O S => by
 obtain ⟨_, mv, hn, hm⟩ := S.own _ _ (Hp.set_self ..)
 obtain ⟨v, h1, h2⟩ := hm x d hv
 exact wpAny_Name (wpAny_loadName_local hk hx hn h1 ⟨d, _, h2, S, .refl _, H, rfl, hL, q⟩) hd
theorem Ev.cell {x pos d c} (hc : env.cells.lookup x = some c) (hH : H c = some (.cel (some d))) (q : Q d H) (hk : autoParam (env.scope.kind = .function) aR) (hx : autoParam (env.kindOf x = some .cell) aR) (hd : autoParam ((x == ("__debug__" : Str)) = false) aD) :
  Ev G n env m H (.Name x pos) Q := fun s hL B A T O S => by
 have ne : c ≠ env.locals := fun z => by rw [z, hL] at hH; cases hH
 obtain ⟨_, v, hn, hm⟩ := S.own c _ ((Hp.set_ne _ _ ne).trans hH)
 obtain ⟨v', rfl, h2⟩ := hm d rfl
 exact wpAny_Name (wpAny_loadName_cell hk hx hc hn ⟨d, _, h2, S, .refl _, H, rfl, hL, q⟩) hd
noncomputable def IsTop (G : Gd) (v : Value) (d : D) : Prop := ∀ B, TopOk G B → Is B v d
theorem IsTop.ref {G : Gd} {a : Addr} : IsTop G (.ref a) (.ref a) := fun _ _ => .ref a
theorem Ev.glob {x pos v d} (e : nsIn G.K mainGlobals x = some (some v)) (hd' : IsTop G v d) (q : Q d H) (hk : autoParam (env.scope.kind = .function) aR) (hg : autoParam (env.globals = mainGlobals) aR) (hx : autoParam (env.kindOf x = some .globalImplicit) aR) (hd : autoParam ((x == ("__debug__" : Str)) = false) aD) :
  Ev G n env m H (.Name x pos) Q := fun s hL B A T O S =>
 Name_function_global hk hx (loadGlobal_global (env := env) (hg ▸ T.t.g.keeps S.keep) (mg_of T.k T.t.g e) ⟨d, _, (hd' B T).mono (.keeps S.keep), S, .refl _, H, rfl, hL, q⟩) hd
theorem Ev.built {x pos v d} (e : nsIn G.K mainGlobals x = some none) (hv : bootBuiltins x = some v) (hi : ∀ h, Is h v d) (q : Q d H) (hk : autoParam (env.scope.kind = .function) aR) (hg : autoParam (env.globals = mainGlobals) aR) (hb : autoParam (env.builtins = builtinsNs) aR) (hn : autoParam (x ≠ "__name__") aD)
  (hx : autoParam (env.kindOf x = some .globalImplicit) aR) (hd : autoParam ((x == ("__debug__" : Str)) = false) aD) : Ev G n env m H (.Name x pos) Q := fun s hL B A T O S =>
 Name_function_global hk hx (loadGlobal_builtin (env := env) (hg ▸ T.t.g.keeps S.keep) (mg_none_of T.k T.t.g e) (hb ▸ T.t.b.keeps S.keep) ((T.t.builtins x hn).trans hv) ⟨d, _, hi _, S, .refl _, H, rfl, hL, q⟩) hd
theorem Ev.bin {op l r pos} (h : Ev G n env m H l fun d1 H1 => Ev G n env m H1 r fun d2 H2 => Bin G n H2 op d1 d2 Q) : Ev G n env m H (.BinOp l op r pos) Q := by
 intro s hL B A T O S
 refine wpAny_BinOp (wpAny_mono (h s hL B A T O S) ?_ fun _ _ z => z)
 rintro v1 s1 ⟨d1, _, i1, S1, st1, H1, rfl, hL1, h1⟩
 refine wpAny_mono (h1 s1 hL1 B A T O S1) ?_ fun _ _ z => z
 rintro v2 s2 ⟨d2, _, i2, S2, st2, H2, rfl, hL2, h2⟩
 refine wpAny_mono ((h2 s2 v1 v2 (i1.mono st2.tup) i2).frame hL2 B A T O S2) ?_ fun _ _ z => z
 rintro v3 s3 ⟨d3, H3, i3, S3, st3, q⟩
 exact ⟨d3, H3, i3, S3, (st1.trans st2).trans st3, q⟩
theorem Ev.una {op x pos} (h : Ev G n env m H x fun d H1 => Una G n H1 op d Q) : Ev G n env m H (.UnaryOp op x pos) Q := by
 intro s hL B A T O S
 refine wpAny_UnaryOp (wpAny_mono (h s hL B A T O S) ?_ fun _ _ z => z)
 rintro v1 s1 ⟨d1, _, i1, S1, st1, H1, rfl, hL1, h1⟩
 refine wpAny_mono ((h1 s1 v1 i1).frame hL1 B A T O S1) ?_ fun _ _ z => z
 rintro v3 s3 ⟨d3, H3, i3, S3, st3, q⟩
 exact ⟨d3, H3, i3, S3, st1.trans st3, q⟩
theorem Ev.cmp {op l r pos} (h : Ev G n env m H l fun d1 H1 => Ev G n env m H1 r fun d2 H2 => Cmp G n H2 op d1 d2 Q) (hm : autoParam (behindInMarks op r = false) aW) : Ev G n env m H (.Compare l [op] [r] pos) Q := by
 intro s hL B A T O S
 refine wpAny_Compare1 (wpAny_mono (h s hL B A T O S) ?_ fun _ _ z => z) hm
 rintro v1 s1 ⟨d1, _, i1, S1, st1, H1, rfl, hL1, h1⟩
 refine wpAny_mono (h1 s1 hL1 B A T O S1) ?_ fun _ _ z => z
 rintro v2 s2 ⟨d2, _, i2, S2, st2, H2, rfl, hL2, h2⟩
 refine wpAny_mono ((h2 s2 v1 v2 (i1.mono st2.tup) i2).frame hL2 B A T O S2) ?_ fun _ _ z => z
 rintro v3 s3 ⟨d3, H3, i3, S3, st3, q⟩
 exact ⟨d3, H3, i3, S3, (st1.trans st2).trans st3, q⟩
theorem EvB.cmp {op l r pos} (h : Ev G n env m H l fun d1 H1 => Ev G n env m H1 r fun d2 H2 => Cmp G n H2 op d1 d2 fun d3 H3 => Tru G n H3 d3 QB) (hm : autoParam (behindInMarks op r = false) aW) : EvB G n env m H (.Compare l [op] [r] pos) QB := by
 intro s hL B A T O S
 refine wpAny_isTrue_Compare1 (wpAny_mono (h s hL B A T O S) ?_ fun _ _ z => z) hm
 rintro v1 s1 ⟨d1, _, i1, S1, st1, H1, rfl, hL1, h1⟩
 refine wpAny_mono (h1 s1 hL1 B A T O S1) ?_ fun _ _ z => z
 rintro v2 s2 ⟨d2, _, i2, S2, st2, H2, rfl, hL2, h2⟩
 refine wpAny_mono ((h2 s2 v1 v2 (i1.mono st2.tup) i2).frame hL2 B A T O S2) ?_ fun _ _ z => z
 rintro v3 s3 ⟨d3, _, i3, S3, st3, H3, rfl, hL3, h3⟩
 refine wpAny_mono ((h3 s3 v3 i3).frame hL3 B A T O S3) ?_ fun _ _ z => z
 rintro v4 s4 ⟨d4, H4, i4, S4, st4, q⟩
 exact ⟨d4, H4, i4, S4, ((st1.trans st2).trans st3).trans st4, q⟩
theorem EvB.not {x pos} (h : EvB G n env m H x fun b H1 => QB (!b) H1) : EvB G n env m H (.UnaryOp .Not x pos) QB := by
 intro s hL B A T O S
 refine isTrue_not (wpAny_mono (h s hL B A T O S) ?_ fun _ _ z => z)
 rintro c s1 ⟨_, _, rfl, S1, st1, H1, rfl, hL1, h1⟩
 exact ⟨_, _, rfl, S1, st1, H1, rfl, hL1, h1⟩
theorem EvB.and_nil {pos} (q : QB true H) : EvB G n env m H (.BoolOp .And [] pos) QB := fun s hL B A T O S => isTrue_and_nil ⟨_, _, rfl, S, .refl _, H, rfl, hL, q⟩
theorem EvB.or_nil {pos} (q : QB false H) : EvB G n env m H (.BoolOp .Or [] pos) QB := fun s hL B A T O S => isTrue_or_nil ⟨_, _, rfl, S, .refl _, H, rfl, hL, q⟩
theorem EvB.and {x rest pos} (h : EvB G n env m H x fun b H1 => (b = true → EvB G n env m H1 (.BoolOp .And rest pos) QB) ∧ (b = false → QB false H1)) : EvB G n env m H (.BoolOp .And (x :: rest) pos) QB := by
 intro s hL B A T O S
 refine isTrue_and (wpAny_mono (h s hL B A T O S) ?_ fun _ _ z => z)
 rintro c s1 ⟨_, _, rfl, S1, st1, H1, rfl, hL1, h1⟩
 cases c with
 | false => exact ⟨_, _, rfl, S1, st1, H1, rfl, hL1, h1.2 rfl⟩
 | true => exact wpAny_mono (h1.1 rfl s1 hL1 B A T O S1) (fun v s2 ⟨d, H', a, b, c, e⟩ => ⟨d, H', a, b, st1.trans c, e⟩) fun _ _ z => z
theorem EvB.or {x rest pos} (h : EvB G n env m H x fun b H1 => (b = true → QB true H1) ∧ (b = false → EvB G n env m H1 (.BoolOp .Or rest pos) QB)) : EvB G n env m H (.BoolOp .Or (x :: rest) pos) QB := by
 intro s hL B A T O S
 refine isTrue_or (wpAny_mono (h s hL B A T O S) ?_ fun _ _ z => z)
 rintro c s1 ⟨_, _, rfl, S1, st1, H1, rfl, hL1, h1⟩
 cases c with
 | true => exact ⟨_, _, rfl, S1, st1, H1, rfl, hL1, h1.1 rfl⟩
 | false => exact wpAny_mono (h1.2 rfl s1 hL1 B A T O S1) (fun v s2 ⟨d, H', a, b, c, e⟩ => ⟨d, H', a, b, st1.trans c, e⟩) fun _ _ z => z
theorem EvB.plain {e} (h : Ev G n env m H e fun d H1 => Tru G n H1 d QB) (he : autoParam (isTrue e env (eval e env) = (do let v ← eval e env; standAt e.pos; holding [v] (truthy v))) aR) : EvB G n env m H e QB := by
 intro s hL B A T O S
 refine isTrue_plain (wpAny_mono (h s hL B A T O S) ?_ fun _ _ z => z) he
 rintro v1 s1 ⟨d1, _, i1, S1, st1, H1, rfl, hL1, h1⟩
 refine wpAny_mono ((h1 s1 v1 i1).frame hL1 B A T O S1) ?_ fun _ _ z => z
 rintro v4 s4 ⟨d4, H4, i4, S4, st4, q⟩
 exact ⟨d4, H4, i4, S4, st1.trans st4, q⟩
theorem Ev.one {op e pos} (h : Ev G n env m H e Q) : Ev G n env m H (.BoolOp op [e] pos) Q := h
theorem Ev.and {e₁ e₂ rest pos} (h : Ev G n env m H e₁ fun d H1 => Tru G n H1 d fun b H2 => (b = true → Ev G n env m H2 (.BoolOp .And (e₂ :: rest) pos) Q) ∧ (b = false → Q d H2)) : Ev G n env m H (.BoolOp .And (e₁ :: e₂ :: rest) pos) Q := by
 intro s hL B A T O S
 refine BoolOp_and (wpAny_mono (h s hL B A T O S) ?_ fun _ _ z => z)
 rintro v1 s1 ⟨d1, _, i1, S1, st1, H1, rfl, hL1, h1⟩
 refine wpAny_mono ((h1 s1 v1 i1).frame hL1 B A T O S1) ?_ fun _ _ z => z
 rintro c s2 ⟨_, _, rfl, S2, st2, H2, rfl, hL2, h2⟩
 cases c with
 | false => exact ⟨_, _, i1.mono st2.tup, S2, st1.trans st2, H2, rfl, hL2, h2.2 rfl⟩
 | true => exact wpAny_mono (h2.1 rfl s2 hL2 B A T O S2) (fun v s2 ⟨d, H', a, b, c, e⟩ => ⟨d, H', a, b, (st1.trans st2).trans c, e⟩) fun _ _ z => z
theorem Ev.or {e₁ e₂ rest pos} (h : Ev G n env m H e₁ fun d H1 => Tru G n H1 d fun b H2 => (b = true → Q d H2) ∧ (b = false → Ev G n env m H2 (.BoolOp .Or (e₂ :: rest) pos) Q)) : Ev G n env m H (.BoolOp .Or (e₁ :: e₂ :: rest) pos) Q := by
 intro s hL B A T O S
 refine BoolOp_or (wpAny_mono (h s hL B A T O S) ?_ fun _ _ z => z)
 rintro v1 s1 ⟨d1, _, i1, S1, st1, H1, rfl, hL1, h1⟩
 refine wpAny_mono ((h1 s1 v1 i1).frame hL1 B A T O S1) ?_ fun _ _ z => z
 rintro c s2 ⟨_, _, rfl, S2, st2, H2, rfl, hL2, h2⟩
 cases c with
 | true => exact ⟨_, _, i1.mono st2.tup, S2, st1.trans st2, H2, rfl, hL2, h2.1 rfl⟩
 | false => exact wpAny_mono (h2.2 rfl s2 hL2 B A T O S2) (fun v s2 ⟨d, H', a, b, c, e⟩ => ⟨d, H', a, b, (st1.trans st2).trans c, e⟩) fun _ _ z => z
theorem Ev.ifx {test body orelse pos} (h : EvB G n env m H test fun b H1 => (b = true → Ev G n env m H1 body Q) ∧ (b = false → Ev G n env m H1 orelse Q)) : Ev G n env m H (.IfExp test body orelse pos) Q := by
 intro s hL B A T O S
 refine IfExp_ (wpAny_mono (h s hL B A T O S) ?_ fun _ _ z => z)
 rintro c s1 ⟨_, _, rfl, S1, st1, H1, rfl, hL1, h1⟩
 cases c with
 | true => exact wpAny_mono (h1.1 rfl s1 hL1 B A T O S1) (fun v s2 ⟨d, H', a, b, c, e⟩ => ⟨d, H', a, b, st1.trans c, e⟩) fun _ _ z => z
 | false => exact wpAny_mono (h1.2 rfl s1 hL1 B A T O S1) (fun v s2 ⟨d, H', a, b, c, e⟩ => ⟨d, H', a, b, st1.trans c, e⟩) fun _ _ z => z
noncomputable def Ch (G : Gd) (n : Nat) (env : Env) (m : Loc) (H : Hp) (pos : Pos) (d : D) (ops : List CmpOp) (rs : List Expr) (QB : Bool → Hp → Prop) : Prop :=
 ∀ s v, H env.locals = none → Is s.heap v d → At Same G n (H.set env.locals (.ns m)) s (testChain pos v ops (evalEach rs env)) (FQ env.locals m QB)
theorem EvB.chain {l op₁ op₂ ops r₁ r₂ rs pos} (h : Ev G n env m H l fun d H1 => Ch G n env m H1 pos d (op₁ :: op₂ :: ops) (r₁ :: r₂ :: rs) QB) (hm : autoParam (lastMarks (op₁ :: op₂ :: ops) (r₁ :: r₂ :: rs) = false) aW) :
  EvB G n env m H (.Compare l (op₁ :: op₂ :: ops) (r₁ :: r₂ :: rs) pos) QB := by
 intro s hL B A T O S
 refine isTrue_chain (wpAny_mono (h s hL B A T O S) ?_ fun _ _ z => z) hm
 rintro v1 s1 ⟨d1, _, i1, S1, st1, H1, rfl, hL1, h1⟩
 exact wpAny_mono (h1 s1 v1 hL1 i1 B A T O S1) (fun v s2 ⟨d, H', a, b, c, e⟩ => ⟨d, H', a, b, st1.trans c, e⟩) fun _ _ z => z
theorem Ch.link {d op op' ops r r' rs pos} (h : Ev G n env m H r fun d2 H1 => Cmp G n H1 op d d2 fun d3 H2 => Tru G n H2 d3 fun b H3 => (b = true → Ch G n env m H3 pos d2 (op' :: ops) (r' :: rs) QB) ∧ (b = false → QB false H3)) :
  Ch G n env m H pos d (op :: op' :: ops) (r :: r' :: rs) QB := by
 intro s v hL i B A T O S
 show wpAny _ A (do
  let rv ← holding [v] (eval r env)
  standAt pos
  let c ← holding [v, rv] (compareOp op v rv)
  release [v, rv] [c]
  if ← holding [c, rv] (truthy c) then testChain pos rv (op' :: ops) (evalEach (r' :: rs) env) else pure false) _ _ s
 refine wpAny_bind (wpAny_holding (wpAny_mono (h s hL B A T O S) ?_ fun _ _ z => z))
 rintro v2 s2 ⟨d2, _, i2, S2, st2, H2, rfl, hL2, h2⟩
 refine wpAny_bind (wpAny_standAt (wpAny_bind (wpAny_holding (wpAny_mono ((h2 s2 v v2 (i.mono st2.tup) i2).frame hL2 B A T O S2) ?_ fun _ _ z => z))))
 rintro v3 s3 ⟨d3, _, i3, S3, st3, H3, rfl, hL3, h3⟩
 refine wpAny_bind (wpAny_release' (wpAny_bind (wpAny_holding (wpAny_mono ((h3 s3 v3 i3).frame hL3 B A T O S3) ?_ fun _ _ z => z))))
 rintro c s4 ⟨_, _, rfl, S4, st4, H4, rfl, hL4, h4⟩
 cases c with
 | false => exact wpAny_pure ⟨_, _, rfl, S4, (st2.trans st3).trans st4, H4, rfl, hL4, h4.2 rfl⟩
 | true => exact wpAny_mono (h4.1 rfl s4 v2 hL4 (i2.mono (st3.trans st4).tup) B A T O S4) (fun v s2 ⟨d, H', a, b, c, e⟩ => ⟨d, H', a, b, ((st2.trans st3).trans st4).trans c, e⟩) fun _ _ z => z
theorem Ch.last {d op r pos} (h : Ev G n env m H r fun d2 H1 => Cmp G n H1 op d d2 fun d3 H2 => Tru G n H2 d3 QB) : Ch G n env m H pos d [op] [r] QB := by
 intro s v hL i B A T O S
 show wpAny _ A (do
  let rv ← holding [v] (eval r env)
  standAt pos
  let c ← operate [v, rv] (compareOp op v rv)
  holding [c] (truthy c)) _ _ s
 refine wpAny_bind (wpAny_holding (wpAny_mono (h s hL B A T O S) ?_ fun _ _ z => z))
 rintro v2 s2 ⟨d2, _, i2, S2, st2, H2, rfl, hL2, h2⟩
 refine wpAny_bind (wpAny_standAt (wpAny_bind (wpAny_operate' (wpAny_mono ((h2 s2 v v2 (i.mono st2.tup) i2).frame hL2 B A T O S2) ?_ fun _ _ z => z))))
 rintro v3 s3 ⟨d3, _, i3, S3, st3, H3, rfl, hL3, h3⟩
 refine wpAny_holding (wpAny_mono ((h3 s3 v3 i3).frame hL3 B A T O S3) ?_ fun _ _ z => z)
 rintro c s4 ⟨d4, H4, i4, S4, st4, q⟩
 exact ⟨d4, H4, i4, S4, (st2.trans st3).trans st4, q⟩
theorem Ev.attr {value attr pos} (h : Ev G n env m H value fun d H1 => Get G n H1 d attr Q)
  (he : autoParam (eval (.Attribute value attr pos) env = (do
   let o ← eval value env
   standAt pos.atName
   let r ← holding [o] (getAttr o attr true)
   letTemporaryGo value o r
   pure r)) aW) : Ev G n env m H (.Attribute value attr pos) Q := by
 intro s hL B A T O S
 refine Attribute_any_ (wpAny_mono (h s hL B A T O S) ?_ fun _ _ z => z) he
 rintro v1 s1 ⟨d1, _, i1, S1, st1, H1, rfl, hL1, h1⟩
 refine wpAny_mono ((h1 s1 v1 i1).frame hL1 B A T O S1) ?_ fun _ _ z => z
 rintro v3 s3 ⟨d3, H3, i3, S3, st3, q⟩
 exact ⟨d3, H3, i3, S3, st1.trans st3, q⟩
theorem Ev.item {value slice pos} (h : Ev G n env m H value fun d1 H1 => Ev G n env m H1 slice fun d2 H2 => Item G n H2 d1 d2 Q) : Ev G n env m H (.Subscript value slice pos) Q := by
 intro s hL B A T O S
 refine Subscript_ (wpAny_mono (h s hL B A T O S) ?_ fun _ _ z => z)
 rintro v1 s1 ⟨d1, _, i1, S1, st1, H1, rfl, hL1, h1⟩
 refine wpAny_mono (h1 s1 hL1 B A T O S1) ?_ fun _ _ z => z
 rintro v2 s2 ⟨d2, _, i2, S2, st2, H2, rfl, hL2, h2⟩
 refine wpAny_mono ((h2 value slice s2 v1 v2 (i1.mono st2.tup) i2).frame hL2 B A T O S2) ?_ fun _ _ z => z
 rintro v3 s3 ⟨d3, H3, i3, S3, st3, q⟩
 exact ⟨d3, H3, i3, S3, (st1.trans st2).trans st3, q⟩
theorem EvL.nil {pos} (q : QL [] H) : EvL G n env m H pos [] QL := fun s hL B A T O S => args_nil ⟨_, _, .nil, S, .refl _, H, rfl, hL, q⟩
theorem EvL.cons {e rest pos} (h : Ev G n env m H e fun d H1 => EvL G n env m H1 pos rest fun ds H2 => QL (d :: ds) H2) (he : autoParam (starEach (e :: rest) env = (false, eval e env) :: starEach rest env) aR) :
  EvL G n env m H pos (e :: rest) QL := by
 intro s hL B A T O S
 refine args_cons (wpAny_mono (h s hL B A T O S) ?_ fun _ _ z => z) he
 rintro v1 s1 ⟨d1, _, i1, S1, st1, H1, rfl, hL1, h1⟩
 refine wpAny_mono (h1 s1 hL1 B A T O S1) ?_ fun _ _ z => z
 rintro vs s2 ⟨ds, _, i2, S2, st2, H2, rfl, hL2, h2⟩
 exact ⟨_, _, .cons (i1.mono st2.tup) i2, S2, st1.trans st2, H2, rfl, hL2, h2⟩
theorem push_keeps (h : Heap) (o : Obj) : ∀ b o', h.get? b = some o' → (h.push o).get? b = some o' := fun _ _ e => Heap.get?_push_of_some _ e
theorem Ev.tup {es k pos} (h : EvL G n env m H pos es fun ds H1 => ds.length ≤ sizeLine ∧ Q (.tup ds) H1) : Ev G n env m H (.Tuple es k pos) Q := by
 intro s hL B A T O S
 refine Tuple_ (wpAny_mono (h s hL B A T O S) ?_ fun _ _ z => z)
 rintro vs s1 ⟨ds, _, i1, S1, st1, H1, rfl, hL1, h1⟩
 refine wpAny_newObj_type ?_ (by show vs.toArray.size ≤ sizeLine; rw [List.size_toArray, i1.length]; exact h1.1)
 have kp := push_keeps s1.heap { cls := .type "tuple", data := .seq vs.toArray }
 exact ⟨_, _, .tup (IsTup.new _ _) (i1.mono (.keeps kp)), S1.keeps kp, st1.trans (.hp (.keeps kp)), H1, rfl, hL1, h1.2⟩
theorem Ev.lst {es pos} (h : EvL G n env m H pos es fun ds H1 => ds.length ≤ sizeLine ∧ ∀ a, H1 a = none → a ≠ env.locals → Q (.ref a) (H1.set a (.lst ds))) : Ev G n env m H (.List es pos) Q := by
 intro s hL B A T O S
 refine List_ (wpAny_mono (h s hL B A T O S) ?_ fun _ _ z => z)
 rintro vs s1 ⟨ds, _, i1, S1, st1, H1, rfl, hL1, h1⟩
 refine wpAny_newObj_type ?_ (by show vs.toArray.size ≤ sizeLine; rw [List.size_toArray, i1.length]; exact h1.1)
 have kp := push_keeps s1.heap { cls := .type "list", data := .seq vs.toArray }
 have hf := S1.fresh (Nat.le_refl _)
 have ne : s1.heap.objs.size ≠ env.locals := fun z => by rw [z, Hp.set_self] at hf; cases hf
 rw [Hp.set_ne _ _ ne] at hf
 refine ⟨_, _, .ref _, S1.new (x := .lst ds) kp (Nat.le_refl _) ⟨vs, ⟨_, Heap.get?_push_size _ rfl⟩, i1.mono (.keeps kp)⟩, st1.trans (.hp (.keeps kp)), H1.set s1.heap.objs.size (.lst ds), Hp.set_comm _ _ _ (Ne.symm ne), ?_, h1.2 _ hf ne⟩
 rw [Hp.set_ne _ _ (Ne.symm ne)]; exact hL1
theorem Ev.callD {x p e rest pos f} (hk : keepIn G.K (.ref f) = true) (h : Ev G n env m H (.Name x p) fun d H1 => d = .ref f ∧ EvL G n env m H1 pos (e :: rest) fun ds H2 => Cal G n H2 (.ref f) ds Q)
  (he : autoParam (starEach (e :: rest) env = (false, eval e env) :: starEach rest env) aR) (hp : autoParam ((backTo pos (starEach rest env)).any (·.1) = false) aR) :
  Ev G n env m H (.Call (.Name x p) (e :: rest) [] pos) Q := by
 intro s hL B A T O S
 refine Call_Name rfl (wpAny_mono (h s hL B A T O S) ?_ fun _ _ z => z)
 rintro v1 s1 ⟨_, _, i1, S1, st1, H1, rfl, hL1, rfl, h1⟩
 (first | (replace i1 := i1.inv; obtain rfl := i1) | (replace i1 := i1.inv; obtain ⟨_, rfl⟩ := i1) | cases i1)
 refine callWith_K (T.k.keeps S1.keep) hk (wpAny_mono (h1 s1 hL1 B A T O S1) ?_ fun _ _ z => z) he hp
 rintro vs s2 ⟨ds, _, i2, S2, st2, H2, rfl, hL2, h2⟩
 refine ⟨T.k.keeps S2.keep, wpAny_mono ((h2 s2 vs i2).frame hL2 B A T O S2) ?_ fun _ _ z => z⟩
 rintro v3 s3 ⟨d3, H3, i3, S3, st3, q⟩
 exact ⟨d3, H3, i3, S3, (st1.trans st2).trans st3, q⟩
theorem Ev.callD0 {x p pos f} (hk : keepIn G.K (.ref f) = true) (h : Ev G n env m H (.Name x p) fun d H1 => d = .ref f ∧ Cal G n H1 (.ref f) [] Q) : Ev G n env m H (.Call (.Name x p) [] [] pos) Q := by
 intro s hL B A T O S
 refine Call_Name rfl (wpAny_mono (h s hL B A T O S) ?_ fun _ _ z => z)
 rintro v1 s1 ⟨_, _, i1, S1, st1, H1, rfl, hL1, rfl, h1⟩
 (first | (replace i1 := i1.inv; obtain rfl := i1) | (replace i1 := i1.inv; obtain ⟨_, rfl⟩ := i1) | cases i1)
 refine callWith_K0 (T.k.keeps S1.keep) hk (wpAny_mono ((h1 s1 [] .nil).frame hL1 B A T O S1) ?_ fun _ _ z => z)
 rintro v3 s3 ⟨d3, H3, i3, S3, st3, q⟩
 exact ⟨d3, H3, i3, S3, st1.trans st3, q⟩
theorem Ev.callB {x p e rest pos id} (h : Ev G n env m H (.Name x p) fun d H1 => d = .bi id ∧ EvL G n env m H1 pos (e :: rest) fun ds H2 => Cal G n H2 (.builtin id) ds Q)
  (he : autoParam (starEach (e :: rest) env = (false, eval e env) :: starEach rest env) aR) (hp : autoParam ((backTo pos (starEach rest env)).any (·.1) = false) aR) :
  Ev G n env m H (.Call (.Name x p) (e :: rest) [] pos) Q := by
 intro s hL B A T O S
 refine Call_Name rfl (wpAny_mono (h s hL B A T O S) ?_ fun _ _ z => z)
 rintro v1 s1 ⟨_, _, i1, S1, st1, H1, rfl, hL1, rfl, h1⟩
 (first | (replace i1 := i1.inv; obtain rfl := i1) | (replace i1 := i1.inv; obtain ⟨_, rfl⟩ := i1) | cases i1)
 refine callWith_builtin1 (wpAny_mono (h1 s1 hL1 B A T O S1) ?_ fun _ _ z => z) he hp
 rintro vs s2 ⟨ds, _, i2, S2, st2, H2, rfl, hL2, h2⟩
 refine wpAny_mono ((h2 s2 vs i2).frame hL2 B A T O S2) ?_ fun _ _ z => z
 rintro v3 s3 ⟨d3, H3, i3, S3, st3, q⟩
 exact ⟨d3, H3, i3, S3, (st1.trans st2).trans st3, q⟩
theorem Ev.callT {x p e rest pos id} (h : Ev G n env m H (.Name x p) fun d H1 => d = .ty id ∧ EvL G n env m H1 pos (e :: rest) fun ds H2 => Cal G n H2 (.type id) ds Q)
  (he : autoParam (starEach (e :: rest) env = (false, eval e env) :: starEach rest env) aR) (hp : autoParam ((backTo pos (starEach rest env)).any (·.1) = false) aR) :
  Ev G n env m H (.Call (.Name x p) (e :: rest) [] pos) Q := by
 intro s hL B A T O S
 refine Call_Name rfl (wpAny_mono (h s hL B A T O S) ?_ fun _ _ z => z)
 rintro v1 s1 ⟨_, _, i1, S1, st1, H1, rfl, hL1, rfl, h1⟩
 (first | (replace i1 := i1.inv; obtain rfl := i1) | (replace i1 := i1.inv; obtain ⟨_, rfl⟩ := i1) | cases i1)
 refine callWith_type1 (wpAny_mono (h1 s1 hL1 B A T O S1) ?_ fun _ _ z => z) he hp
 rintro vs s2 ⟨ds, _, i2, S2, st2, H2, rfl, hL2, h2⟩
 refine wpAny_mono ((h2 s2 vs i2).frame hL2 B A T O S2) ?_ fun _ _ z => z
 rintro v3 s3 ⟨d3, H3, i3, S3, st3, q⟩
 exact ⟨d3, H3, i3, S3, (st1.trans st2).trans st3, q⟩
end
end
section
set_option tactic.hygienic false
inductive Fl where
 | next | brk | cont
 | ret (d : D)
inductive IsF (h : Heap) : Flow → Fl → Prop
 | next : IsF h .next .next
 | brk : IsF h .brk .brk
 | cont : IsF h .cont .cont
 | ret {v : Value} {d : D} : Is h v d → IsF h (.ret v) (.ret d)
noncomputable def retOf : Fl → D
 | .ret d => d
 | _ => .none
inductive FS {β : Type} (L : Addr) (Q : β → Loc → Hp → Prop) (b : β) (H' : Hp) : Prop
 | mk (m' : Loc) (H'' : Hp) (e : H' = H''.set L (.ns m')) (n : H'' L = none) (q : Q b m' H'')
noncomputable def Ex (G : Gd) (n : Nat) (env : Env) (m : Loc) (H : Hp) (ss : List Stmt) (Q : Fl → Loc → Hp → Prop) : Prop :=
 ∀ s, H env.locals = none → At IsF G n (H.set env.locals (.ns m)) s (execs ss env) (FS env.locals Q)
noncomputable def Ex1 (G : Gd) (n : Nat) (env : Env) (m : Loc) (H : Hp) (st : Stmt) (Q : Fl → Loc → Hp → Prop) : Prop :=
 ∀ s, H env.locals = none → At IsF G n (H.set env.locals (.ns m)) s (exec st env) (FS env.locals Q)
noncomputable def Asg (G : Gd) (n : Nat) (env : Env) (m : Loc) (H : Hp) (t : Expr) (d : D) (Q : Loc → Hp → Prop) : Prop :=
 ∀ s v, H env.locals = none → Is s.heap v d → At Same G n (H.set env.locals (.ns m)) s (assign t env v) (FS env.locals fun _ => Q)
noncomputable def AsgL (G : Gd) (n : Nat) (env : Env) (m : Loc) (H : Hp) (ts : List Expr) (ds : List D) (Q : Loc → Hp → Prop) : Prop :=
 ∀ s vs, H env.locals = none → IsL s.heap vs ds → At Same G n (H.set env.locals (.ns m)) s (assignInOrder ((assignEach ts env).map (·.2)) vs) (FS env.locals fun _ => Q)
noncomputable def SetA (G : Gd) (n : Nat) (H : Hp) (o : D) (name : Str) (d : D) (Q : Hp → Prop) : Prop := ∀ s v1 v2, Is s.heap v1 o → Is s.heap v2 d → At Same G n H s (setAttr v1 name v2) fun _ => Q
noncomputable def SetI (G : Gd) (n : Nat) (H : Hp) (o i : D) (d : D) (Q : Hp → Prop) : Prop := ∀ s v1 v2 v3, Is s.heap v1 o → Is s.heap v2 i → Is s.heap v3 d → At Same G n H s (setItem v1 v2 v3) fun _ => Q
noncomputable def Thn (G : Gd) (n : Nat) (env : Env) (rest : List Stmt) (Q : Fl → Loc → Hp → Prop) : Fl → Loc → Hp → Prop
 | .next, m, H => Ex G n env m H rest Q
 | f, m, H => Q f m H
section
variable {G : Gd} {n : Nat} {env : Env} {m : Loc} {H : Hp} {Q Q' : Fl → Loc → Hp → Prop} {QA : Loc → Hp → Prop} {rest : List Stmt}
theorem Ex.mono {ss} (h : Ex G n env m H ss Q) (q : ∀ f m' H', Q f m' H' → Q' f m' H') : Ex G n env m H ss Q' := fun s hL => (h s hL).mono fun d _ ⟨m', H'', a, b, c⟩ => ⟨m', H'', a, b, q _ _ _ c⟩
theorem Ex.nil (q : Q .next m H) : Ex G n env m H [] Q := fun s hL B A T O S => wpAny_execs_nil ⟨_, _, .next, S, .refl _, m, H, rfl, hL, q⟩
theorem Ex.cons {st} (h : Ex1 G n env m H st (Thn G n env rest Q)) : Ex G n env m H (st :: rest) Q := by
 intro s hL B A T O S
 refine wpAny_execs_cons (wpAny_mono (h s hL B A T O S) ?_ fun _ _ z => z)
 rintro f s1 ⟨fl, _, i, S1, st1, m1, H1, rfl, hL1, h1⟩
 cases i with
 | next => exact wpAny_mono (h1 s1 hL1 B A T O S1) (fun v s2 ⟨d, H', a, b, c, e⟩ => ⟨d, H', a, b, st1.trans c, e⟩) fun _ _ z => z
 | brk => exact ⟨_, _, .brk, S1, st1, m1, H1, rfl, hL1, h1⟩
 | cont => exact ⟨_, _, .cont, S1, st1, m1, H1, rfl, hL1, h1⟩
 | ret j => exact ⟨_, _, .ret j, S1, st1, m1, H1, rfl, hL1, h1⟩
theorem Ex.ret {e pos} (h : Ev G n env m H e fun d H1 => Q (.ret d) m H1) : Ex G n env m H (.Return (some e) pos :: rest) Q := Ex.cons fun s hL B A T O S => by
 refine wpAny_Return_some (wpAny_mono (h s hL B A T O S) ?_ fun _ _ z => z)
 rintro v s1 ⟨d, _, i, S1, st1, H1, rfl, hL1, h1⟩
 exact ⟨_, _, .ret i, S1, st1, m, H1, rfl, hL1, h1⟩
theorem Ex.cont {pos} (h : Q .cont m H) : Ex G n env m H (.Continue pos :: rest) Q := Ex.cons fun s hL B A T O S =>
 wpAny_Continue ⟨_, _, .cont, S, .refl _, m, H, rfl, hL, h⟩
theorem Ex.ite {test body orelse pos} (h : EvB G n env m H test fun b H1 => (b = true → Ex G n env m H1 body (Thn G n env rest Q)) ∧ (b = false → Ex G n env m H1 orelse (Thn G n env rest Q))) :
  Ex G n env m H (.If test body orelse pos :: rest) Q := Ex.cons fun s hL B A T O S => by
 refine wpAny_If (wpAny_mono (h s hL B A T O S) ?_ fun _ _ z => z)
 rintro c s1 ⟨_, _, rfl, S1, st1, H1, rfl, hL1, h1⟩
 cases c with
 | true => exact wpAny_mono (h1.1 rfl s1 hL1 B A T O S1) (fun v s2 ⟨d, H', a, b, c, e⟩ => ⟨d, H', a, b, st1.trans c, e⟩) fun _ _ z => z
 | false => exact wpAny_mono (h1.2 rfl s1 hL1 B A T O S1) (fun v s2 ⟨d, H', a, b, c, e⟩ => ⟨d, H', a, b, st1.trans c, e⟩) fun _ _ z => z
theorem Ex.expr {e pos} (h : Ev G n env m H e fun _ H1 => Ex G n env m H1 rest Q) (hi : autoParam (interactive env = false) aR) (hs : autoParam (swapsWith e none pos.line env = pure false) aR) :
  Ex G n env m H (.Expr e pos :: rest) Q := Ex.cons fun s hL B A T O S => by
 refine wpAny_Expr_any (wpAny_mono (h s hL B A T O S) ?_ fun _ _ z => z) hi hs
 rintro v s1 ⟨d, _, i, S1, st1, H1, rfl, hL1, h1⟩
 exact ⟨_, _, .next, S1, st1, m, H1, rfl, hL1, h1⟩
theorem sto_local {x d} {s : Shared} {v : Value} {B : Heap} {A : Around} (hL : H env.locals = none) (S : Sat G B (H.set env.locals (.ns m)) s.heap) (i : Is s.heap v d) (hk : env.scope.kind = .function) (hx : env.kindOf x = some .local) :
  wpAny (model G.prog G.w) A (storeName env x v) (fun _ s' => Sat G B (H.set env.locals (.ns (lset m x d))) s'.heap ∧ Step s s') (fun _ _ => False) s := by
 obtain ⟨_, mv, hn, hm⟩ := S.own _ _ (Hp.set_self ..)
 refine wpAny_storeName_local hx hn (fun h' hn' hs => ?_) (by rw [hk]; rfl)
 have k := S.tupBut (Hp.set_self ..) hs
 have S' := S.upd (x' := .ns (lset m x d)) (Hp.set_self ..) hs ⟨_, hn', fun y d' q => ?_⟩
 ·rw [Hp.set_set] at S'
  exact ⟨S', .mk' k⟩
 ·unfold lset at q
  by_cases hy : y = x
  ·subst hy; rw [if_pos rfl] at q; cases q; exact ⟨v, by simp, i.mono k⟩
  ·rw [if_neg hy] at q
   obtain ⟨u, a, b⟩ := hm y d' q
   exact ⟨u, by simp [hy, a], b.mono k⟩
theorem Asg.name {x pos d} (q : QA (lset m x d) H) (hk : autoParam (env.scope.kind = .function) aR) (hx : autoParam (env.kindOf x = some .local) aR) : Asg G n env m H (.Name x pos) d QA := fun s v hL i B A T O S =>
 wpAny_assign_Name (wpAny_mono (sto_local hL S i hk hx) (fun _ s' ⟨a, b⟩ => ⟨_, _, rfl, a, b, _, H, rfl, hL, q⟩) fun _ _ z => z)
theorem sto_cell {x d c d₀} {s : Shared} {v : Value} {B : Heap} {A : Around} (hL : H env.locals = none) (S : Sat G B (H.set env.locals (.ns m)) s.heap) (i : Is s.heap v d) (hc : env.cells.lookup x = some c) (hH : H c = some (.cel d₀)) (hk : env.scope.kind = .function) (hx : env.kindOf x = some .cell) :
  wpAny (model G.prog G.w) A (storeName env x v) (fun _ s' => Sat G B ((H.set c (.cel (some d))).set env.locals (.ns m)) s'.heap ∧ Step s s') (fun _ _ => False) s := by
 have ne : c ≠ env.locals := fun z => by rw [z, hL] at hH; cases hH
 obtain ⟨_, v₀, hn, hm⟩ := S.own c _ ((Hp.set_ne _ _ ne).trans hH)
 refine wpAny_storeName_cell hk hx hc hn fun h' hv hs => ?_
 have k := S.tupBut ((Hp.set_ne _ _ ne).trans hH) hs
 have S' := S.upd (x' := .cel (some d)) ((Hp.set_ne _ _ ne).trans hH) hs ⟨_, hv, fun d' q => by cases q; exact ⟨v, rfl, i.mono k⟩⟩
 rw [Hp.set_comm _ _ _ (Ne.symm ne)] at S'
 exact ⟨S', .hp k⟩
theorem Asg.ncell {x pos d c d₀} (hc : env.cells.lookup x = some c) (hH : H c = some (.cel d₀)) (q : QA m (H.set c (.cel (some d)))) (hk : autoParam (env.scope.kind = .function) aR) (hx : autoParam (env.kindOf x = some .cell) aR) : Asg G n env m H (.Name x pos) d QA := fun s v hL i B A T O S =>
 wpAny_assign_Name (wpAny_mono (sto_cell hL S i hc hH hk hx) (fun _ s' ⟨a, b⟩ => ⟨_, _, rfl, a, b, _, _, rfl, by
  have ne : c ≠ env.locals := fun z => by rw [z, hL] at hH; cases hH
  rw [Hp.set_ne _ _ (Ne.symm ne)]; exact hL, q⟩) fun _ _ z => z)
theorem AsgL.nil (q : QA m H) : AsgL G n env m H [] [] QA := fun s vs hL i B A T O S => by
 (first | (replace i := i.inv; obtain rfl := i) | (replace i := i.inv; obtain ⟨_, rfl⟩ := i) | cases i); exact wpAny_pure ⟨_, _, rfl, S, .refl _, m, H, rfl, hL, q⟩
theorem AsgL.cons {t ts d ds} (h : Asg G n env m H t d fun m1 H1 => AsgL G n env m1 H1 ts ds QA) (he : autoParam (assignEach (t :: ts) env = (false, assign t env) :: assignEach ts env) aR) : AsgL G n env m H (t :: ts) (d :: ds) QA := fun s vs hL i B A T O S => by
 replace i := i.inv; obtain ⟨v, vs, rfl, i, j⟩ := i
 rw [he]
 show wpAny _ A (holding vs (assign t env v) >>= fun _ => assignInOrder ((assignEach ts env).map (·.2)) vs) _ _ s
 refine wpAny_bind (wpAny_holding <| wpAny_mono (h s _ hL i B A T O S) ?_ fun _ _ z => z)
 rintro _ s1 ⟨_, _, _, S1, st1, m1, H1, rfl, hL1, h1⟩
 exact wpAny_mono (h1 s1 _ hL1 (j.mono st1.tup) B A T O S1) (fun v s2 ⟨d, H', a, b, c, e⟩ => ⟨d, H', a, b, st1.trans c, e⟩) fun _ _ z => z
theorem Asg.tup {elts k pos ds} (h : AsgL G n env m H elts ds QA) (hl : autoParam (elts.length = ds.length) aR) (hf : autoParam ((assignEach elts env).findIdx? (·.1) = none) aR) (hll : autoParam ((assignEach elts env).length = elts.length) aR) : Asg G n env m H (.Tuple elts k pos) (.tup ds) QA := fun s v hL i B A T O S => by
 replace i := i.inv; obtain ⟨a, vs, rfl, ht, j⟩ := i
 show wpAny _ A (do standAt pos; unpack (.ref a) (assignEach elts env)) _ _ s
 refine wpAny_bind (wpAny_standAt ?_)
 unfold unpack
 rw [hf, hll]
 refine wpAny_bind (wpAny_holding ?_)
 have e : elts.length = vs.toArray.size := by rw [List.size_toArray, j.length, hl]
 rw [e]
 refine unpackItems_tuple O.handled ht fun h' he => ?_
 have k : ∀ b o, s.heap.get? b = some o → h'.get? b = some o := fun b o q => he b o (Nat.ne_of_lt (Heap.lt_size q)) q
 exact wpAny_mono (h _ _ hL (j.mono (.keeps k)) B A T O (S.keeps k)) (fun v s2 ⟨d, H', a, b, c, e⟩ => ⟨d, H', a, b, Step.trans (.hp (.keeps k)) c, e⟩) fun _ _ z => z
theorem Ex.asg {x pos' value pos} (h : Ev G n env m H value fun d H1 => Asg G n env m H1 (.Name x pos') d fun m2 H2 => Ex G n env m2 H2 rest Q) (hs : autoParam (swapsWith value (some (.Name x pos')) pos.line env = pure false) aR) :
  Ex G n env m H (.Assign [.Name x pos'] value pos :: rest) Q := Ex.cons fun s hL B A T O S => by
 have e : exec (.Assign [.Name x pos'] value pos) env = (do standAt pos; let v ← eval value env; assign (.Name x pos') env v; pure .next) := by
  rw [PySem.exec_Assign_Name env x pos' value pos hs]; rfl
 rw [e]
 refine wpAny_bind (wpAny_standAt (wpAny_bind (wpAny_mono (h s hL B A T O S) ?_ fun _ _ z => z)))
 rintro v s1 ⟨d, _, i, S1, st1, H1, rfl, hL1, h1⟩
 refine wpAny_bind (wpAny_mono (h1 s1 v hL1 i B A T O S1) ?_ fun _ _ z => z)
 rintro _ s2 ⟨_, _, _, S2, st2, m2, H2, rfl, hL2, h2⟩
 exact wpAny_pure ⟨_, _, .next, S2, st1.trans st2, m2, H2, rfl, hL2, h2⟩
theorem Ex.asgT {elts k tpos value pos} (h : Ev G n env m H value fun d H1 => Asg G n env m H1 (.Tuple elts k tpos) d fun m2 H2 => Ex G n env m2 H2 rest Q)
  (hs : autoParam (swapsWithSole [.Tuple elts k tpos] value pos.line env = pure false) aR) (hw : autoParam (swappedStores [.Tuple elts k tpos] value env = pure none) aR) :
  Ex G n env m H (.Assign [.Tuple elts k tpos] value pos :: rest) Q := Ex.cons fun s hL B A T O S => by
 refine Assign_Tuple (wpAny_mono (h s hL B A T O S) ?_ fun _ _ z => z) hs hw
 rintro v s1 ⟨d, _, i, S1, st1, H1, rfl, hL1, h1⟩
 refine wpAny_mono (h1 s1 v hL1 i B A T O S1) ?_ fun _ _ z => z
 rintro _ s2 ⟨_, _, _, S2, st2, m2, H2, rfl, hL2, h2⟩
 exact ⟨_, _, .next, S2, st1.trans st2, m2, H2, rfl, hL2, h2⟩
noncomputable def StoL (G : Gd) (n : Nat) (env : Env) (m : Loc) (H : Hp) : List Str → List D → (Loc → Hp → Prop) → Prop
 | [], _, Q => Q m H
 | x :: xs, d :: ds, Q => env.scope.kind = .function ∧ env.kindOf x = some .local ∧ StoL G n env (lset m x d) H xs ds Q
 | _ :: _, [], _ => False
theorem sto_list (xs : List Str) : ∀ {ds : List D} {vs : List Value} {m : Loc} {s : Shared} {B : Heap} {A : Around} {QA : Loc → Hp → Prop}, StoL G n env m H xs ds QA → xs.length = ds.length → IsL s.heap vs ds → H env.locals = none → Sat G B (H.set env.locals (.ns m)) s.heap →
  wpAny (model G.prog G.w) A (assignInOrder (xs.map fun x => bindName env x) vs) (fun _ s' => ∃ m', Sat G B (H.set env.locals (.ns m')) s'.heap ∧ Step s s' ∧ QA m' H) (fun _ _ => False) s := by
 induction xs with
 | nil =>
  intro ds vs m s B A QA h hl i hL S
  exact wpAny_pure ⟨m, S, .refl _, h⟩
 | cons x xs ih =>
  intro ds vs m s B A QA h hl i hL S
  cases i with
  | nil => cases hl
  | @cons v d vs ds i j =>
  obtain ⟨hk, hx, h⟩ := h
  show wpAny _ A (holding vs (bindName env x v) >>= fun _ => assignInOrder (xs.map fun x => bindName env x) vs) _ _ s
  refine wpAny_bind (wpAny_holding (wpAny_bindName (wpAny_mono (sto_local hL S i hk hx) ?_ fun _ _ z => z)))
  intro _ s1 q
  have l : xs.length = ds.length := Nat.succ.inj hl
  exact wpAny_mono (ih h l (j.mono q.2.tup) hL q.1) (fun _ s2 ⟨m', a, b, c⟩ => ⟨m', a, q.2.trans b, c⟩) fun _ _ z => z
theorem Ex.asgS {elts k tpos value pos names} (h : Ev G n env m H value fun d H1 => ∃ ds, d = .tup ds ∧ names.length = ds.length ∧ StoL G n env m H1 names.reverse ds.reverse fun m2 H2 => Ex G n env m2 H2 rest Q)
  (hs : autoParam (swapsWithSole [.Tuple elts k tpos] value pos.line env = pure false) aR) (hw : autoParam (swappedStores [.Tuple elts k tpos] value env = pure (some names)) aR) :
  Ex G n env m H (.Assign [.Tuple elts k tpos] value pos :: rest) Q := Ex.cons fun s hL B A T O S => by
 refine Assign_Tuple_swapped (names := names) (wpAny_mono (h s hL B A T O S) ?_ fun _ _ z => z) hs hw
 rintro v s1 ⟨_, _, i, S1, st1, H1, rfl, hL1, ds, rfl, hl, h1⟩
 replace i := i.inv; obtain ⟨a, vs, rfl, ht, j⟩ := i
 have e : names.length = vs.toArray.size := by rw [List.size_toArray, j.length, hl]
 rw [e]
 refine unpackItems_tuple O.handled ht fun h' he => ?_
 have k : ∀ b o, s1.heap.get? b = some o → h'.get? b = some o := fun b o q => he b o (Nat.ne_of_lt (Heap.lt_size q)) q
 refine wpAny_mono (sto_list names.reverse h1 (by simpa using hl) (s := { s1 with heap := h' }) (j.mono (.keeps k)).reverse hL1 (S1.keeps k)) ?_ fun _ _ z => z
 rintro _ s2 ⟨m', S2, st2, h2⟩
 exact ⟨_, _, .next, S2, st1.trans (Step.trans (.hp (.keeps k)) st2), m', H1, rfl, hL1, h2⟩
theorem Ex.asgA {o attr pos' value pos} (h : Ev G n env m H value fun d H1 => Ev G n env m H1 o fun d2 H2 => SetA G n H2 d2 attr d fun H3 => Ex G n env m H3 rest Q)
  (hs : autoParam (swapsWith value (some (.Attribute o attr pos')) pos.line env = pure false) aR) : Ex G n env m H (.Assign [.Attribute o attr pos'] value pos :: rest) Q := Ex.cons fun s hL B A T O S => by
 refine plainObj_wpAny_Assign_Attribute (wpAny_mono (h s hL B A T O S) ?_ fun _ _ z => z) hs
 rintro v1 s1 ⟨d1, _, i1, S1, st1, H1, rfl, hL1, h1⟩
 refine wpAny_mono (h1 s1 hL1 B A T O S1) ?_ fun _ _ z => z
 rintro v2 s2 ⟨d2, _, i2, S2, st2, H2, rfl, hL2, h2⟩
 refine wpAny_mono ((h2 s2 v2 v1 i2 (i1.mono st2.tup)).frame hL2 B A T O S2) ?_ fun _ _ z => z
 rintro _ s3 ⟨_, _, _, S3, st3, H3, rfl, hL3, h3⟩
 exact ⟨_, _, .next, S3, (st1.trans st2).trans st3, m, H3, rfl, hL3, h3⟩
theorem Ex.asgI {o i pos' value pos} (h : Ev G n env m H value fun d H1 => Ev G n env m H1 o fun d2 H2 => Ev G n env m H2 i fun d3 H3 => SetI G n H3 d2 d3 d fun H4 => Ex G n env m H4 rest Q)
  (hs : autoParam (swapsWith value (some (.Subscript o i pos')) pos.line env = pure false) aR) : Ex G n env m H (.Assign [.Subscript o i pos'] value pos :: rest) Q := Ex.cons fun s hL B A T O S => by
 refine wpAny_Assign_Subscript (wpAny_mono (h s hL B A T O S) ?_ fun _ _ z => z) hs
 rintro v1 s1 ⟨d1, _, i1, S1, st1, H1, rfl, hL1, h1⟩
 refine wpAny_mono (h1 s1 hL1 B A T O S1) ?_ fun _ _ z => z
 rintro v2 s2 ⟨d2, _, i2, S2, st2, H2, rfl, hL2, h2⟩
 refine wpAny_mono (h2 s2 hL2 B A T O S2) ?_ fun _ _ z => z
 rintro v3 s3 ⟨d3, _, i3, S3, st3, H3, rfl, hL3, h3⟩
 refine wpAny_mono ((h3 s3 v2 v3 v1 (i2.mono st3.tup) i3 (i1.mono (st2.trans st3).tup)).frame hL3 B A T O S3) ?_ fun _ _ z => z
 rintro _ s4 ⟨_, _, _, S4, st4, H4, rfl, hL4, h4⟩
 exact ⟨_, _, .next, S4, ((st1.trans st2).trans st3).trans st4, m, H4, rfl, hL4, h4⟩
end
noncomputable def locOf (ks : List Str) (es : List D) : Loc := fun x => (ks.zip es).reverse.lookup x
theorem zip_lookup {h : Heap} : ∀ {ks : List Str} {ws : List Value} {es : List D}, IsL h ws es → ∀ {acc : List (Str × Value)} {acc' : List (Str × D)},
  (∀ x d, acc'.lookup x = some d → ∃ v, acc.lookup x = some v ∧ Is h v d) → (∀ x, acc'.lookup x = none → acc.lookup x = none) →
  (∀ x d, ((ks.zip es).reverse ++ acc').lookup x = some d → ∃ v, ((ks.zip ws).reverse ++ acc).lookup x = some v ∧ Is h v d) := by
 intro ks
 induction ks with
 | nil => intro ws es i acc acc' h1 h2; simpa using h1
 | cons k ks ih =>
  intro ws es i acc acc' h1 h2
  cases i with
  | nil => simpa using h1
  | @cons w e ws es i j =>
   simp only [List.zip_cons_cons, List.reverse_cons, List.append_assoc, List.singleton_append]
   refine ih j (fun x d q => ?_) (fun x q => ?_)
   ·rw [List.lookup_cons] at q ⊢
    cases hx : x == k with
    | true => rw [hx] at q; cases q; exact ⟨w, rfl, i⟩
    | false => rw [hx] at q; exact h1 x d q
   ·rw [List.lookup_cons] at q ⊢
    cases hx : x == k with
    | true => rw [hx] at q; cases q
    | false => rw [hx] at q; exact h2 x q
theorem locOf_rep {h : Heap} {ks : List Str} {ws : List Value} {es : List D} (i : IsL h ws es) {x : Str} {d : D} (e : locOf ks es x = some d) : ∃ v, (ks.zip ws).reverse.lookup x = some v ∧ Is h v d := by
 have := zip_lookup (ks := ks) i (acc := []) (acc' := []) (fun x d q => by cases q) (fun _ _ => rfl) x d (by simpa [locOf] using e)
 simpa using this
theorem Ok.deeper {A : Around} {n : Nat} (O : Ok A (n + 1)) (env : Env) : Ok (A.deeper env) n := ⟨O.handled, by show A.depth + 1 + n < _; have := O.depth; one_sign, by show A.units + 3 + 20 * n < _; have := O.units; one_sign⟩
theorem Cal.fn {G : Gd} {n : Nat} {H : Hp} {Q : D → Hp → Prop} {f : Addr} {name qual : Str} {params : Arguments} {body : List Stmt} {scope : Scope} {dV kV doc pm cdv ct oc : Value} {an od : Option Addr} {osl : Array (Option Value)} {ds es : List D} (ks : List Str)
  (ho : G.K.lookup f = some ⟨oc, od, .func (fnOf name qual params body scope dV kV doc pm an cdv ct), osl⟩) (hcd : codeIn G.K cdv qual = true)
  (hbind : ∀ B, TopOk G B → ∀ s vs, (∀ b o, B.get? b = some o → s.heap.get? b = some o) → IsL s.heap vs ds → ∃ ws, BindsTo s (fnOf name qual params body scope dV kV doc pm an cdv ct) ⟨vs, []⟩ (ks.zip ws) ∧ IsL s.heap ws es)
  (h : ∀ L, H L = none → Ex G n (envX qual scope L f cdv []) (locOf ks es) H body fun fl _ H' => Q (retOf fl) H')
  (hcell : autoParam (∀ x ∈ scope.names, x.2 ≠ .cell) aD) (hloc : autoParam (∀ k ∈ ks, scope.names.lookup k = some .local) aD)
  (hco : autoParam (scope.isCoroutine = false) aR) (hgen : autoParam (scope.isGenerator = false) aR) (hk : autoParam (scope.kind = .function) aR) : Cal G (n + 1) H (.ref f) ds Q := by
 intro s vs i B A T O S
 obtain ⟨ws, hb, j⟩ := hbind B T s vs S.keep i
 have hroom : A.depth < recursionLimit := by have := O.depth; one_sign
 refine wpAny_call (codeAny_call_def (fd := fnOf name qual params body scope dV kV doc pm an cdv ct) (body := body) hroom (T.k.keeps S.keep _ _ ho) rfl (T.t.nolimit.keeps S.keep) (codeRec_of (T.k.keeps S.keep) hcd) rfl hb hcell
  (fun x hx => hloc x.1 (List.of_mem_zip hx).1) (fun h₁ hns hk₁ => ?_) hco hgen hk)
 have hL := S.fresh (Nat.le_refl _)
 have S1 : Sat G B (H.set s.heap.objs.size (.ns (locOf ks es))) h₁ := S.new hk₁ (Nat.le_refl _) ⟨_, hns, fun x d e => let ⟨v, a, b⟩ := locOf_rep j e; ⟨v, a, b.mono (.keeps hk₁)⟩⟩
 refine wpAny_mono (h s.heap.objs.size hL _ hL B _ T (O.deeper _) S1) ?_ fun _ _ z => z.elim
 rintro f' s' ⟨fl, _, i', S', st', m', H', rfl, hL', q⟩
 have fin : ∀ {v d}, Is s'.heap v d → Q d H' → Got Is G B s Q v s' := fun {v d} a b =>
  ⟨d, H', a, S'.forget fun a x e => by
   by_cases z : a = s.heap.objs.size
   ·subst z; rw [show H' s.heap.objs.size = none from hL'] at e; cases e
   ·exact (Hp.set_ne _ _ z).trans e, Step.trans (.mk' (.keeps hk₁)) st', b⟩
 cases i' with
 | next => exact fin .none q
 | brk => exact fin .none q
 | cont => exact fin .none q
 | ret a => exact fin a q
end
section
set_option tactic.hygienic false
noncomputable def sq : D → D → Bool
 | .none, .none => true
 | .bool a, .bool b => a == b
 | .int a, .int b => a == b
 | .str a, .str b => a == b
 | _, _ => false
noncomputable def sk : D → D → Bool
 | .none, .none => true
 | .bool _, .bool _ => true
 | .int _, .int _ => true
 | .str _, .str _ => true
 | .none, .str _ => true
 | .str _, .none => true
 | .none, .int _ => true
 | .int _, .none => true
 | .int _, .str _ => true
 | .str _, .int _ => true
 | _, _ => false
noncomputable def tq (l r : List D) : Bool := l.length == r.length && (l.zip r).all fun p => sq p.1 p.2
noncomputable def tk (l r : List D) : Bool := (l.zip r).all fun p => sk p.1 p.2
noncomputable def deq : D → D → Bool
 | .tup l, .tup r => tq l r
 | d, e => sq d e
noncomputable def dk : D → D → Bool
 | .tup l, .tup r => tk l r
 | d, e => sk d e
section
variable {A : Around} {s : Shared} {v w : Value} {d e : D}
theorem sc2 {P : Value → Value → Bool → Prop} {h : Heap} (i : Is h v d) (j : Is h w e) (hk : sk d e = true) (p0 : P .none .none true) (p1 : ∀ i t, P .none (.int i t) false) (p2 : ∀ x t, P .none (.str x t) false) (p3 : ∀ a b, P (.bool a) (.bool b) (a == b))
  (p4 : ∀ i t, P (.int i t) .none false) (p5 : ∀ i t j u, P (.int i t) (.int j u) (i == j)) (p6 : ∀ i t x u, P (.int i t) (.str x u) false) (p7 : ∀ x t, P (.str x t) .none false) (p8 : ∀ x t j u, P (.str x t) (.int j u) false) (p9 : ∀ x t y u, P (.str x t) (.str y u) (x == y)) : P v w (sq d e) := by
 cases i <;> first | (cases hk; done) | (cases j <;> first | (cases hk; done) | exact p0 | exact p1 _ _ | exact p2 _ _ | exact p3 _ _ | exact p4 _ _ | exact p5 _ _ _ _ | exact p6 _ _ _ _ | exact p7 _ _ | exact p8 _ _ _ _ | exact p9 _ _ _ _)
theorem RcAt.sc (i : Is s.heap v d) (j : Is s.heap w e) (h : sk d e = true) : RcAt A s v w (sq d e) :=
 sc2 (P := RcAt A s) i j h RcAt.none_none RcAt.none_int RcAt.none_str RcAt.bool_bool RcAt.int_none RcAt.int_int RcAt.int_str RcAt.str_none RcAt.str_int RcAt.str_str
theorem EqAt.sc (i : Is s.heap v d) (j : Is s.heap w e) (h : sk d e = true) : EqAt A s v w (sq d e) :=
 sc2 (P := EqAt A s) i j h (EqAt.same _) EqAt.none_int EqAt.none_str EqAt.bool_bool EqAt.int_none EqAt.int_int EqAt.int_str EqAt.str_none EqAt.str_int EqAt.str_str
theorem RcNeAt.sc (i : Is s.heap v d) (j : Is s.heap w e) (h : sk d e = true) : RcNeAt A s v w (!sq d e) :=
 sc2 (P := fun v w b => RcNeAt A s v w (!b)) i j h RcNeAt.none_none RcNeAt.none_int RcNeAt.none_str RcNeAt.bool_bool RcNeAt.int_none RcNeAt.int_int RcNeAt.int_str RcNeAt.str_none RcNeAt.str_int RcNeAt.str_str
theorem zipAll {l r : List D} {e : D → D → Bool} : ((List.range (min l.length r.length)).all fun j => e (l.getD j .none) (r.getD j .none)) = (l.zip r).all fun p => e p.1 p.2 := by
 induction l generalizing r with
 | nil => simp
 | cons a l ih =>
  cases r with
  | nil => simp
  | cons b r =>
   have q : min (a :: l).length (b :: r).length = min l.length r.length + 1 := by simp only [List.length_cons]; one_sign
   rw [q, List.range_succ_eq_map, List.all_cons, List.all_map, List.zip_cons_cons, List.all_cons, ← ih]
   rfl
theorem tk_at {l r : List D} (h : tk l r = true) {j : Nat} (h1 : j < l.length) (h2 : j < r.length) : sk l[j] r[j] = true := by
 have z := List.all_eq_true.mp h (l[j], r[j]) (by
  rw [List.mem_iff_getElem]
  exact ⟨j, by rw [List.length_zip]; one_sign, by simp⟩)
 exact z
theorem IsL.at {h : Heap} {vs : List Value} {l : List D} (i : IsL h vs l) {j : Nat} (h1 : j < vs.length) (h2 : j < l.length) : Is h vs[j] l[j] := by
 obtain ⟨v, a, b⟩ := i.get (i := j) (d := l[j]) (by simp [h2])
 have : v = vs[j] := by simpa [List.getElem?_eq_getElem h1] using a.symm
 exact this ▸ b
theorem eq_items {vs ws : List Value} {l r : List D} (i : IsL s.heap vs l) (j : IsL s.heap ws r) (h : tk l r = true) :
  ∀ k (h1 : k < vs.toArray.size) (h2 : k < ws.toArray.size), EqAt A s vs.toArray[k] ws.toArray[k] (sq (l.getD k .none) (r.getD k .none)) := by
 intro k h1 h2
 rw [List.size_toArray] at h1 h2
 have l1 : k < l.length := i.length ▸ h1
 have l2 : k < r.length := j.length ▸ h2
 have z := EqAt.sc (A := A) (i.at h1 l1) (j.at h2 l2) (tk_at h l1 l2)
 simpa [List.getD_eq_getElem?_getD, List.getElem?_eq_getElem l1, List.getElem?_eq_getElem l2] using z
theorem tupOf {h : Heap} {a : Addr} {vs : Array Value} (t : IsTup h a vs) : h.IsTuple a vs := t
theorem RcAt.tup {l r : List D} (i : Is s.heap v (.tup l)) (j : Is s.heap w (.tup r)) (hu : A.units < cLine) (h : tk l r = true) : RcAt A s v w (tq l r) := by
 replace i := i.inv; obtain ⟨a, vs, rfl, t, i⟩ := i; replace j := j.inv; obtain ⟨b, ws, rfl, u, j⟩ := j
 have z := RcAt.tuples (tupOf t) (tupOf u) hu (e := fun k => sq (l.getD k .none) (r.getD k .none)) (eq_items i j h)
 rw [List.size_toArray, List.size_toArray, i.length, j.length, zipAll (e := sq), Bool.and_comm] at z
 exact z
theorem RcNeAt.tup {l r : List D} (i : Is s.heap v (.tup l)) (j : Is s.heap w (.tup r)) (hu : A.units < cLine) (h : tk l r = true) : RcNeAt A s v w (!tq l r) := by
 replace i := i.inv; obtain ⟨a, vs, rfl, t, i⟩ := i; replace j := j.inv; obtain ⟨b, ws, rfl, u, j⟩ := j
 have z := RcNeAt.tuples (tupOf t) (tupOf u) hu (e := fun k => sq (l.getD k .none) (r.getD k .none)) (eq_items i j h)
 rw [List.size_toArray, List.size_toArray, i.length, j.length, zipAll (e := sq), Bool.and_comm] at z
 exact z
theorem sq_of {h : Heap} (i : Is h v d) (j : Is h v e) (q : sk d e = true) : sq d e = true :=
 sc2 (P := fun v w b => v = w → b = true) i j q (fun _ => rfl) (fun _ _ e => by cases e) (fun _ _ e => by cases e) (fun _ _ e => by cases e; exact beq_self_eq_true _) (fun _ _ e => by cases e) (fun _ _ _ _ e => by cases e; exact beq_self_eq_true _) (fun _ _ _ _ e => by cases e) (fun _ _ e => by cases e) (fun _ _ _ _ e => by cases e) (fun _ _ _ _ e => by cases e; exact beq_self_eq_true _) rfl
theorem tq_of {h : Heap} {vs : List Value} : ∀ {l r : List D}, IsL h vs l → IsL h vs r → tk l r = true → tq l r = true := by
 induction vs with
 | nil => intro l r i j _; (first | (replace i := i.inv; obtain rfl := i) | (replace i := i.inv; obtain ⟨_, rfl⟩ := i) | cases i); (first | (replace j := j.inv; obtain rfl := j) | (replace j := j.inv; obtain ⟨_, rfl⟩ := j) | cases j); rfl
 | cons v vs ih =>
  intro l r i j h
  replace i := i.cinv; obtain ⟨_, _, rfl, a, i⟩ := i; replace j := j.cinv; obtain ⟨_, _, rfl, b, j⟩ := j
  unfold tk at h
  rw [List.zip_cons_cons, List.all_cons, Bool.and_eq_true] at h
  have z := ih i j h.2
  unfold tq at z ⊢
  rw [Bool.and_eq_true] at z
  rw [List.zip_cons_cons, List.all_cons, z.2, sq_of a b h.1]
  simpa using z.1
theorem EqAt.tup {l r : List D} (i : Is s.heap v (.tup l)) (j : Is s.heap w (.tup r)) (hu : A.units < cLine) (h : tk l r = true) : EqAt A s v w (tq l r) := by
 have z := RcAt.tup i j hu h
 replace i := i.inv; obtain ⟨a, vs, rfl, t, i⟩ := i; replace j := j.inv; obtain ⟨b, ws, rfl, u, j⟩ := j
 by_cases q : a = b
 ·subst q
  obtain ⟨o, h1, h2, n, h3⟩ := t
  obtain ⟨o', h1', h2', n', h3'⟩ := u
  rw [h1] at h1'; cases h1'
  rw [h3] at h3'
  have e : vs = ws := by injection h3' with e _; simpa using e
  subst e
  rw [tq_of i j h]; exact EqAt.same _
 ·exact EqAt.of_refs q z
theorem RcAt.dt (i : Is s.heap v d) (j : Is s.heap w e) (hu : A.units < cLine) (h : dk d e = true) : RcAt A s v w (deq d e) := by
 cases d <;> cases e <;> first | exact RcAt.sc i j h | exact RcAt.tup i j hu h
theorem RcNeAt.dt (i : Is s.heap v d) (j : Is s.heap w e) (hu : A.units < cLine) (h : dk d e = true) : RcNeAt A s v w (!deq d e) := by
 cases d <;> cases e <;> first | exact RcNeAt.sc i j h | exact RcNeAt.tup i j hu h
theorem EqAt.dt (i : Is s.heap v d) (j : Is s.heap w e) (hu : A.units < cLine) (h : dk d e = true) : EqAt A s v w (deq d e) := by
 cases d <;> cases e <;> first | exact EqAt.sc i j h | exact EqAt.tup i j hu h
theorem eq_itemsD {vs ws : List Value} {l r : List D} (i : IsL s.heap vs l) (j : IsL s.heap ws r) (hu : A.units < cLine) (h : ((l.zip r).all fun p => dk p.1 p.2) = true) :
  ∀ k (h1 : k < vs.toArray.size) (h2 : k < ws.toArray.size), EqAt A s vs.toArray[k] ws.toArray[k] (deq (l.getD k .none) (r.getD k .none)) := by
 intro k h1 h2
 rw [List.size_toArray] at h1 h2
 have l1 : k < l.length := i.length ▸ h1
 have l2 : k < r.length := j.length ▸ h2
 have z := EqAt.dt (A := A) (i.at h1 l1) (j.at h2 l2) hu (List.all_eq_true.mp h (l[k], r[k]) (by
  rw [List.mem_iff_getElem]; exact ⟨k, by rw [List.length_zip]; one_sign, by simp⟩))
 simpa [List.getD_eq_getElem?_getD, List.getElem?_eq_getElem l1, List.getElem?_eq_getElem l2] using z
end
theorem Ok.room {A : Around} {n : Nat} (O : Ok A n) (h : 1 ≤ n) : A.units + 10 < cLine := by have := O.units; one_sign
theorem Ok.u {A : Around} {n : Nat} (O : Ok A n) : A.units < cLine := by have := O.units; one_sign
section
variable {G : Gd} {n : Nat} {H : Hp} {Q : D → Hp → Prop} {QB : Bool → Hp → Prop}
theorem Tru.none (q : QB false H) : Tru G n H .none QB := fun s v i B A T O S => by (first | (replace i := i.inv; obtain rfl := i) | (replace i := i.inv; obtain ⟨_, rfl⟩ := i) | cases i); exact truthy_none ⟨_, _, rfl, S, .refl _, q⟩
theorem Tru.bool {b} (q : QB b H) : Tru G n H (.bool b) QB := fun s v i B A T O S => by (first | (replace i := i.inv; obtain rfl := i) | (replace i := i.inv; obtain ⟨_, rfl⟩ := i) | cases i); exact wpAny_truthy_bool ⟨_, _, rfl, S, .refl _, q⟩
theorem Bin.addI {a b} (q : Q (.int (a + b)) H) : Bin G n H .Add (.int a) (.int b) Q := fun s v w i j B A T O S => by (first | (replace i := i.inv; obtain rfl := i) | (replace i := i.inv; obtain ⟨_, rfl⟩ := i) | cases i); (first | (replace j := j.inv; obtain rfl := j) | (replace j := j.inv; obtain ⟨_, rfl⟩ := j) | cases j); exact P.add_int ⟨_, _, .int _ _, S, .tok, q⟩
theorem Bin.subI {a b} (q : Q (.int (a - b)) H) : Bin G n H .Sub (.int a) (.int b) Q := fun s v w i j B A T O S => by (first | (replace i := i.inv; obtain rfl := i) | (replace i := i.inv; obtain ⟨_, rfl⟩ := i) | cases i); (first | (replace j := j.inv; obtain rfl := j) | (replace j := j.inv; obtain ⟨_, rfl⟩ := j) | cases j); exact P.sub_int ⟨_, _, .int _ _, S, .tok, q⟩
theorem Bin.mulI {a b} (hm : IntMulOk a b) (q : Q (.int (a * b)) H) : Bin G n H .Mult (.int a) (.int b) Q := fun s v w i j B A T O S => by (first | (replace i := i.inv; obtain rfl := i) | (replace i := i.inv; obtain ⟨_, rfl⟩ := i) | cases i); (first | (replace j := j.inv; obtain rfl := j) | (replace j := j.inv; obtain ⟨_, rfl⟩ := j) | cases j); exact P.mul_int ⟨_, _, .int _ _, S, .tok, q⟩ hm
theorem Bin.modI {a b} (hb : b ≠ 0) (q : Q (.int (a.fmod b)) H) : Bin G n H .Mod (.int a) (.int b) Q := fun s v w i j B A T O S => by (first | (replace i := i.inv; obtain rfl := i) | (replace i := i.inv; obtain ⟨_, rfl⟩ := i) | cases i); (first | (replace j := j.inv; obtain rfl := j) | (replace j := j.inv; obtain ⟨_, rfl⟩ := j) | cases j); exact mod_int' hb ⟨_, _, .int _ _, S, .tok, q⟩
theorem Bin.divI {a b} (hb : b ≠ 0) (hp : Builtin.divisionGoesByPylong a b = false) (q : Q (.int (a.fdiv b)) H) : Bin G n H .FloorDiv (.int a) (.int b) Q := fun s v w i j B A T O S => by (first | (replace i := i.inv; obtain rfl := i) | (replace i := i.inv; obtain ⟨_, rfl⟩ := i) | cases i); (first | (replace j := j.inv; obtain rfl := j) | (replace j := j.inv; obtain ⟨_, rfl⟩ := j) | cases j); exact floordiv_int hb ⟨_, _, .int _ _, S, .tok, q⟩ (.inl hp)
theorem Una.neg {a} (q : Q (.int (-a)) H) : Una G n H .USub (.int a) Q := fun s v i B A T O S => by (first | (replace i := i.inv; obtain rfl := i) | (replace i := i.inv; obtain ⟨_, rfl⟩ := i) | cases i); exact PyProof.Rows.neg_int ⟨_, _, .int _ _, S, .tok, q⟩
theorem Cmp.ltI {a b} (q : Q (.bool (decide (a < b))) H) : Cmp G n H .Lt (.int a) (.int b) Q := fun s v w i j B A T O S => by (first | (replace i := i.inv; obtain rfl := i) | (replace i := i.inv; obtain ⟨_, rfl⟩ := i) | cases i); (first | (replace j := j.inv; obtain rfl := j) | (replace j := j.inv; obtain ⟨_, rfl⟩ := j) | cases j); exact P.lt_int ⟨_, _, .bool _, S, .refl _, q⟩
theorem Cmp.leI {a b} (q : Q (.bool (decide (a ≤ b))) H) : Cmp G n H .LtE (.int a) (.int b) Q := fun s v w i j B A T O S => by (first | (replace i := i.inv; obtain rfl := i) | (replace i := i.inv; obtain ⟨_, rfl⟩ := i) | cases i); (first | (replace j := j.inv; obtain rfl := j) | (replace j := j.inv; obtain ⟨_, rfl⟩ := j) | cases j); exact P.le_int ⟨_, _, .bool _, S, .refl _, q⟩
theorem Cmp.gtI {a b} (q : Q (.bool (decide (a > b))) H) : Cmp G n H .Gt (.int a) (.int b) Q := fun s v w i j B A T O S => by (first | (replace i := i.inv; obtain rfl := i) | (replace i := i.inv; obtain ⟨_, rfl⟩ := i) | cases i); (first | (replace j := j.inv; obtain rfl := j) | (replace j := j.inv; obtain ⟨_, rfl⟩ := j) | cases j); exact P.gt_int ⟨_, _, .bool _, S, .refl _, q⟩
theorem Cmp.geI {a b} (q : Q (.bool (decide (a ≥ b))) H) : Cmp G n H .GtE (.int a) (.int b) Q := fun s v w i j B A T O S => by (first | (replace i := i.inv; obtain rfl := i) | (replace i := i.inv; obtain ⟨_, rfl⟩ := i) | cases i); (first | (replace j := j.inv; obtain rfl := j) | (replace j := j.inv; obtain ⟨_, rfl⟩ := j) | cases j); exact P.ge_int ⟨_, _, .bool _, S, .refl _, q⟩
theorem Cmp.eq {d e} (q : Q (.bool (deq d e)) H) (h : autoParam (dk d e = true) aR) : Cmp G n H .Eq d e Q := fun s v w i j B A T O S => cmp_ofEq (RcAt.dt i j O.u h _ _ _ _ ⟨_, _, .bool _, S, .refl _, q⟩)
theorem Cmp.ne {d e} (q : Q (.bool (!deq d e)) H) (h : autoParam (dk d e = true) aR) : Cmp G n H .NotEq d e Q := fun s v w i j B A T O S => cmp_ofNotEq (RcNeAt.dt i j O.u h _ _ _ _ ⟨_, _, .bool _, S, .refl _, q⟩)
noncomputable def isN : D → Bool
 | .none => true
 | _ => false
theorem isN_eq {h : Heap} {v : Value} {d : D} (i : Is h v d) : (v == Value.none) = isN d := by cases i <;> rfl
theorem Cmp.isN {d} (q : Q (.bool (Mine.isN d)) H) : Cmp G n H .Is d .none Q := fun s v w i j B A T O S => by
 (first | (replace j := j.inv; obtain rfl := j) | (replace j := j.inv; obtain ⟨_, rfl⟩ := j) | cases j); exact is_none_gen ⟨_, _, by rw [isN_eq i]; exact .bool _, S, .refl _, q⟩
theorem Cmp.isnotN {d} (q : Q (.bool (!Mine.isN d)) H) : Cmp G n H .IsNot d .none Q := fun s v w i j B A T O S => by
 (first | (replace j := j.inv; obtain rfl := j) | (replace j := j.inv; obtain ⟨_, rfl⟩ := j) | cases j); exact isnot_none_gen ⟨_, _, by rw [isN_eq i]; exact .bool _, S, .refl _, q⟩
noncomputable def dOv : Value → D
 | .bool b => .bool b
 | .int i _ => .int i
 | .str x _ => .str x
 | _ => .none
theorem dOv_sk {h : Heap} {v : Value} {d e : D} (i : Is h v d) (t : sk d e = true) : dOv v = d := by
 cases i <;> first | rfl | cases t
theorem dOv_dk {h : Heap} {v : Value} {d e : D} (i : Is h v d) (t : dk d e = true) (n : ∀ l, e ≠ .tup l) : dOv v = d := by
 refine dOv_sk i (e := e) ?_
 cases e <;> first | exact absurd rfl (n _) | (cases d <;> exact t)
theorem deq_uniqL {h : Heap} : ∀ {vs : List Value} {l l2 r' : List D}, IsL h vs l → IsL h vs l2 → tk l2 r' = true → tk l r' = true → tq l2 r' = tq l r' := by
 intro vs
 induction vs with
 | nil => intro l l2 r' i j _ _; (first | (replace i := i.inv; obtain rfl := i) | (replace i := i.inv; obtain ⟨_, rfl⟩ := i) | cases i); (first | (replace j := j.inv; obtain rfl := j) | (replace j := j.inv; obtain ⟨_, rfl⟩ := j) | cases j); rfl
 | cons v vs ih =>
  intro l l2 r' i j k1 k2
  cases i with | @cons _ a1 _ l a i => cases j with | @cons _ b1 _ l2 b j =>
  cases r' with
  | nil => simp [tq]
  | cons r0 r' =>
   unfold tk at k1 k2
   rw [List.zip_cons_cons, List.all_cons, Bool.and_eq_true] at k1 k2
   have z := ih i j k1.2 k2.2
   unfold tq at z ⊢
   have e1 : sq b1 r0 = sq a1 r0 := by
    rw [(dOv_sk b k1.1).symm.trans (dOv_sk a k2.1)]
   have e2 : l.length = l2.length := i.length.symm.trans j.length
   simp only [List.length_cons, List.zip_cons_cons, List.all_cons, e1]
   simp only [e2] at z ⊢
   cases hx : (l2.length == r'.length) with
   | true =>
    rw [hx] at z
    have hx' : (l2.length + 1 == r'.length + 1) = true := by simpa using hx
    simp only [hx', Bool.true_and] at z ⊢
    rw [z]
   | false =>
    have hx' : (l2.length + 1 == r'.length + 1) = false := by simpa using hx
    simp only [hx', Bool.false_and]
theorem tup_same {h : Heap} {a : Addr} {vs ws : List Value} (t : IsTup h a vs.toArray) (u : IsTup h a ws.toArray) : vs = ws := by
 obtain ⟨o, h1, _, n, h3⟩ := t
 obtain ⟨o', h1', _, n', h3'⟩ := u
 rw [h1] at h1'; cases h1'
 rw [h3] at h3'
 injection h3' with e _; simpa using e
theorem deq_uniq {h : Heap} {v : Value} {d e c : D} (p : Is h v e) (q : Is h v c) (r : dk c d = true) (t : dk e d = true) : deq c d = deq e d := by
 by_cases n : ∀ l, d ≠ .tup l
 ·rw [(dOv_dk q r n).symm.trans (dOv_dk p t n)]
 ·obtain ⟨r', n⟩ := Classical.not_forall.mp n
  obtain rfl := Classical.not_not.mp n
  cases p with
  | @tup a vs l t1 i1 =>
   cases q with
   | @tup _ vs2 l2 t2 i2 =>
    obtain rfl := tup_same t1 t2
    exact deq_uniqL i1 i2 r t
   | _ => cases r
  | _ => cases t
open Classical in
theorem in_core {s : Shared} {A : Around} {x : Value} {d : D} {vs : List Value} {l : List D} (i : IsL s.heap vs l) (j : Is s.heap x d) (hu : A.units < cLine) (hk : (l.all fun e => dk e d) = true) :
  ∃ f : Value → Bool, (∀ y, y ∈ vs.toArray → EqAt A s y x (f y)) ∧ vs.toArray.any f = l.any fun e => deq e d := by
 have key : ∀ y e, e ∈ l → Is s.heap y e → (decide (∃ e, e ∈ l ∧ Is s.heap y e ∧ deq e d = true)) = deq e d := by
  intro y e he hi
  cases q : deq e d with
  | true => exact decide_eq_true ⟨e, he, hi, q⟩
  | false =>
   refine decide_eq_false ?_
   rintro ⟨c, hc, hj, hq⟩
   rw [deq_uniq hi hj (List.all_eq_true.mp hk _ hc) (List.all_eq_true.mp hk _ he), q] at hq
   cases hq
 refine ⟨fun y => decide (∃ e, e ∈ l ∧ Is s.heap y e ∧ deq e d = true), fun y hy => ?_, ?_⟩
 ·obtain ⟨k, hk1, e⟩ := List.mem_iff_getElem.mp (List.mem_toArray.mp hy)
  have l1 : k < l.length := i.length ▸ hk1
  have hi : Is s.heap y l[k] := e ▸ i.at hk1 l1
  have z := EqAt.dt hi j hu (List.all_eq_true.mp hk _ (List.getElem_mem l1))
  show EqAt A s y x (decide _)
  rw [key y _ (List.getElem_mem l1) hi]; exact z
 ·rw [← Array.any_toList]
  show vs.any _ = _
  have aux : ∀ {vs' : List Value} {l' : List D}, IsL s.heap vs' l' → (∀ e ∈ l', e ∈ l) → (vs'.any fun y => decide (∃ e, e ∈ l ∧ Is s.heap y e ∧ deq e d = true)) = l'.any fun e => deq e d := by
   intro vs'
   induction vs' with
   | nil => intro l' i' _; (first | (replace i' := i'.inv; obtain rfl := i') | (replace i' := i'.inv; obtain ⟨_, rfl⟩ := i') | cases i'); rfl
   | cons v vs' ih =>
    intro l' i' hs
    cases i' with | @cons _ e0 _ l' a i' =>
    rw [List.any_cons, List.any_cons, ih i' fun e he => hs e (.tail _ he), key v e0 (hs e0 (.head _)) a]
  exact aux i fun _ h => h
theorem Cmp.inT {d l} (q : Q (.bool (l.any fun e => deq e d)) H) (h : autoParam ((l.all fun e => dk e d) = true) aR) (hn : autoParam (1 ≤ n) aD) : Cmp G n H .In d (.tup l) Q := fun s v w i j B A T O S => by
 replace j := j.inv; obtain ⟨a, vs, rfl, t, j⟩ := j
 obtain ⟨f, h1, h2⟩ := in_core (A := A.in1) j i (by have := O.room hn; show A.units + 1 < _; one_sign) h
 refine in_tupleAt f (tupOf t) h1 ⟨_, _, ?_, S, .refl _, q⟩
 rw [h2]; exact .bool _
theorem Cmp.ninT {d l} (q : Q (.bool (!(l.any fun e => deq e d))) H) (h : autoParam ((l.all fun e => dk e d) = true) aR) (hn : autoParam (1 ≤ n) aD) : Cmp G n H .NotIn d (.tup l) Q := fun s v w i j B A T O S => by
 replace j := j.inv; obtain ⟨a, vs, rfl, t, j⟩ := j
 obtain ⟨f, h1, h2⟩ := in_core (A := A.in1) j i (by have := O.room hn; show A.units + 1 < _; one_sign) h
 refine notIn_tupleAt f (tupOf t) h1 ⟨_, _, ?_, S, .refl _, q⟩
 rw [h2]; exact .bool _
theorem Cmp.inL {d a l} (hH : H a = some (.lst l)) (q : Q (.bool (l.any fun e => deq e d)) H) (h : autoParam ((l.all fun e => dk e d) = true) aR) (hn : autoParam (1 ≤ n) aD) : Cmp G n H .In d (.ref a) Q := fun s v w i j B A T O S => by
 (first | (replace j := j.inv; obtain rfl := j) | (replace j := j.inv; obtain ⟨_, rfl⟩ := j) | cases j)
 obtain ⟨_, vs, t, j⟩ := S.own _ _ hH
 obtain ⟨f, h1, h2⟩ := in_core (A := A.in1) j i (by have := O.room hn; show A.units + 1 < _; one_sign) h
 refine in_listAt f t.isList h1 ⟨_, _, ?_, S, .refl _, q⟩
 rw [h2]; exact .bool _
noncomputable def leq (l r : List D) : Bool := l.length == r.length && (l.zip r).all fun p => deq p.1 p.2
theorem Cmp.eqL {a b l r} (hA : H a = some (.lst l)) (hB : H b = some (.lst r)) (q : Q (.bool (leq l r)) H) (h : autoParam (((l.zip r).all fun p => dk p.1 p.2) = true) aR) (hn : autoParam (1 ≤ n) aD) : Cmp G n H .Eq (.ref a) (.ref b) Q := fun s v w i j B A T O S => by
 (first | (replace i := i.inv; obtain rfl := i) | (replace i := i.inv; obtain ⟨_, rfl⟩ := i) | cases i); (first | (replace j := j.inv; obtain rfl := j) | (replace j := j.inv; obtain ⟨_, rfl⟩ := j) | cases j)
 obtain ⟨_, vs, t, i⟩ := S.own _ _ hA
 obtain ⟨_, ws, u, j⟩ := S.own _ _ hB
 have hu : A.in1.units < cLine := by have := O.room hn; show A.units + 1 < _; one_sign
 refine cmp_ofEq ?_
 by_cases e : l.length = r.length
 ·refine RcAt.lists t.isList u.isList (by rw [List.size_toArray, List.size_toArray, i.length, j.length, e]) O.u (e := fun k => deq (l.getD k .none) (r.getD k .none)) (eq_itemsD i j hu h) _ _ _ _ ⟨_, _, ?_, S, .refl _, q⟩
  have : ((List.range vs.toArray.size).all fun k => deq (l.getD k .none) (r.getD k .none)) = leq l r := by
   rw [List.size_toArray, i.length, show l.length = min l.length r.length by one_sign, zipAll (e := deq)]; unfold leq; simp [e]
  rw [this]; exact .bool _
 ·refine RcAt.lists_lengths t.isList u.isList (by rw [List.size_toArray, List.size_toArray, i.length, j.length]; simpa using e) O.u _ _ _ _ ⟨_, _, ?_, S, .refl _, q⟩
  have : leq l r = false := by unfold leq; simp [e]
  rw [this]; exact .bool _
theorem Cmp.neL {a b l r} (hA : H a = some (.lst l)) (hB : H b = some (.lst r)) (q : Q (.bool (!leq l r)) H) (h : autoParam (((l.zip r).all fun p => dk p.1 p.2) = true) aR) (hn : autoParam (1 ≤ n) aD) : Cmp G n H .NotEq (.ref a) (.ref b) Q := fun s v w i j B A T O S => by
 (first | (replace i := i.inv; obtain rfl := i) | (replace i := i.inv; obtain ⟨_, rfl⟩ := i) | cases i); (first | (replace j := j.inv; obtain rfl := j) | (replace j := j.inv; obtain ⟨_, rfl⟩ := j) | cases j)
 obtain ⟨_, vs, t, i⟩ := S.own _ _ hA
 obtain ⟨_, ws, u, j⟩ := S.own _ _ hB
 have hu : A.in1.units < cLine := by have := O.room hn; show A.units + 1 < _; one_sign
 refine cmp_ofNotEq ?_
 by_cases e : l.length = r.length
 ·refine RcNeAt.lists t.isList u.isList (by rw [List.size_toArray, List.size_toArray, i.length, j.length, e]) O.u (e := fun k => deq (l.getD k .none) (r.getD k .none)) (eq_itemsD i j hu h) _ _ _ _ ⟨_, _, ?_, S, .refl _, q⟩
  have : ((List.range vs.toArray.size).all fun k => deq (l.getD k .none) (r.getD k .none)) = leq l r := by
   rw [List.size_toArray, i.length, show l.length = min l.length r.length by one_sign, zipAll (e := deq)]; unfold leq; simp [e]
  rw [this]; exact .bool _
 ·refine RcNeAt.lists_lengths t.isList u.isList (by rw [List.size_toArray, List.size_toArray, i.length, j.length]; simpa using e) O.u _ _ _ _ ⟨_, _, ?_, S, .refl _, q⟩
  have : leq l r = false := by unfold leq; simp [e]
  rw [this]; exact .bool _
end
end
section
set_option tactic.hygienic false
noncomputable def sget (x : Str) : List (D × D) → Option D
 | [] => none
 | (.str y, d) :: r => if y = x then some d else sget x r
 | _ :: r => sget x r
theorem Ent.noRef {P : Params} {h : Heap} {es : List DictEntry} {l : List (D × D)} (x : Ent P h es l) : es.any (·.refKey) = false := by
 induction x with
 | nil => rfl
 | str a _ _ r ih => rw [List.any_cons, ih]; unfold DictEntry.refKey; rw [a]; rfl
 | int a _ _ r ih => rw [List.any_cons, ih]; unfold DictEntry.refKey; rw [a]; rfl
theorem Ent.sgetL {P : Params} {h : Heap} {x : Str} {es : List DictEntry} {l : List (D × D)} (i : Ent P h es l) :
  match sget x l with
  | some d => ∃ e, es.find? (·.key.isStr x) = some e ∧ Is h e.val d
  | none => es.find? (·.key.isStr x) = none := by
 induction i with
 | nil => rfl
 | @str e y _ _ _ _ a _ c r ih =>
  unfold sget
  by_cases q : y = x
  ·rw [if_pos q]; exact ⟨e, by rw [List.find?_cons, a]; simp [Value.isStr, q], c⟩
  ·rw [if_neg q]
   have z : e.key.isStr x = false := by rw [a]; simp [Value.isStr, q]
   rw [List.find?_cons, z]; exact ih
 | @int e y _ _ _ _ a _ c r ih =>
  unfold sget
  have z : e.key.isStr x = false := by rw [a]; rfl
  rw [List.find?_cons, z]; exact ih
theorem Ent.getL_some {P : Params} {h : Heap} {x : Str} {es : List DictEntry} {l : List (D × D)} {d : D} (i : Ent P h es l) (e : sget x l = some d) : ∃ v, getL x es = some (some v) ∧ Is h v d := by
 have z := i.sgetL (x := x); rw [e] at z
 obtain ⟨en, h1, h2⟩ := z
 exact ⟨en.val, by unfold getL; rw [h1], h2⟩
theorem Ent.getL_none {P : Params} {h : Heap} {x : Str} {es : List DictEntry} {l : List (D × D)} (i : Ent P h es l) (e : sget x l = none) : getL x es = some none := by
 have z := i.sgetL (x := x); rw [e] at z
 unfold getL; rw [z, i.noRef]; rfl
theorem exact_dict {o : Obj} {es : List DictEntry} {n : Nat} (h : o.ExactDict) (e : o.data = .dict es.toArray n) : o = dictOf es n := by
 obtain ⟨c, d, dt, sl⟩ := o
 obtain ⟨h1, h2, h3⟩ := h
 simp only at h1 h2 h3 e
 subst h1 h2 h3 e; rfl
section
variable {G : Gd} {n : Nat} {env : Env} {m : Loc} {H : Hp} {Q : D → Hp → Prop}
theorem inst_at {B : Heap} {h : Heap} {x C dx : Addr} {l : List (D × D)} (S : Sat G B H h) (h1 : H x = some (.ins C dx)) (h2 : H dx = some (.dct l)) :
  ∃ es k, InstAt h x (instObj C dx) C (some (dictOf es k)) ∧ Ent G.w.params h es l := by
 have a := (S.own _ _ h1).2
 obtain ⟨o, es, k, b1, b2, b3, b4⟩ := (S.own _ _ h2).2
 rw [exact_dict b2 b3] at b1
 exact ⟨es, k, ⟨a, rfl, rfl, b1⟩, b4⟩
theorem Is.handed {h : Heap} {v : Value} {d : D} (i : Is h v d) (hd : ∀ id, d ≠ .bi id) : handedIn v = true := by cases i <;> first | rfl | exact absurd rfl (hd _)
theorem Get.own {x C dx l name d attr} (h1 : H x = some (.ins C dx)) (h2 : H dx = some (.dct l)) (hl : sget name l = some d) (hg : plainGet G.K C name = true) (hh : hasDictIn G.K C = true) (ha : findIn G.K (.ref C) name = some attr) (hn : noGet G.K attr = true)
  (q : Q d H) (hd : ∀ id, d ≠ .bi id := by intro _ e; cases e) : Get G n H (.ref x) name Q := fun s v i B A T O S => by
 (first | (replace i := i.inv; obtain rfl := i) | (replace i := i.inv; obtain ⟨_, rfl⟩ := i) | cases i)
 obtain ⟨es, k, I, en⟩ := inst_at S h1 h2
 obtain ⟨v, a, b⟩ := en.getL_some hl
 exact get_value (T.k.keeps S.keep) I (plainGet_of hg).1 (findObj_own hh ha hn (by rw [lookIn_dict]; exact a)) (b.handed hd) ⟨_, _, b, S, .tok, q⟩
inductive MeE (G : Gd) (n : Nat) (env : Env) (m : Loc) (pos : Pos) (e : Expr) (rest : List Expr) (C f : Addr) (name : Str) (Q : D → Hp → Prop) (d : D) (H1 : Hp) : Prop
 | mk (x dx : Addr) (l : List (D × D)) (ed : d = .ref x) (hx : H1 x = some (.ins C dx)) (hdx : H1 dx = some (.dct l)) (hl : sget name l = none) (h : EvL G n env m H1 pos (e :: rest) fun ds H2 => Cal G n H2 (.ref f) (.ref x :: ds) Q)
theorem Ev.methE {o name apos e rest pos C f} {pl : Sem Bool} (hg : plainGet G.K C name = true) (hf : findIn G.K (.ref C) name = some (some (.ref f))) (ht : isFn G.K (.ref f) = true) (hk : keepIn G.K (.ref f) = true)
  (h : Ev G n env m H o (MeE G n env m pos e rest C f name Q))
  (he : autoParam (eval (.Call (.Attribute o name apos) (e :: rest) [] pos) env = (do
   let ov ← eval o env
   standAt apos.atName
   let (f, first) ← holding [ov] (getMethod ov name pl)
   callWith pos f first (backTo pos (starEach (e :: rest) env)) [])) aR)
  (hs : autoParam (starEach (e :: rest) env = (false, eval e env) :: starEach rest env) aR) (hp : autoParam ((backTo pos (starEach rest env)).any (·.1) = false) aR) :
  Ev G n env m H (.Call (.Attribute o name apos) (e :: rest) [] pos) Q := by
 intro s hL B A T O S
 refine MethodCall_ (pl := pl) (wpAny_mono (h s hL B A T O S) ?_ fun _ _ z => z) he
 rintro v1 s1 ⟨_, _, i1, S1, st1, H1, rfl, hL1, x, dx, l, rfl, hx, hdx, hl, h1⟩
 (first | (replace i1 := i1.inv; obtain rfl := i1) | (replace i1 := i1.inv; obtain ⟨_, rfl⟩ := i1) | cases i1)
 have ne : ∀ {a y}, H1 a = some y → a ≠ env.locals := fun q z => by rw [z, hL1] at q; cases q
 obtain ⟨es, k, I, en⟩ := inst_at (H := H1.set env.locals (.ns m)) S1 ((Hp.set_ne _ _ (ne hx)).trans hx) ((Hp.set_ne _ _ (ne hdx)).trans hdx)
 refine PySem.W.method_fn (T.k.keeps S1.keep) I (plainGet_of hg).1 (plainGet_of hg).2 hf (beq_iff_eq.mp ht) (by show (lookIn name (dictOf es k)).map _ = _; rw [lookIn_dict, en.getL_none hl]; rfl) ?_
 refine callWith_K (T.k.keeps S1.keep) hk (wpAny_mono (h1 s1 hL1 B A T O S1) ?_ fun _ _ z => z) hs hp
 rintro vs s2 ⟨ds, _, i2, S2, st2, H2, rfl, hL2, h2⟩
 refine ⟨T.k.keeps S2.keep, wpAny_mono ((h2 s2 (.ref x :: vs) (.cons (.ref x) i2)).frame hL2 B A T O S2) ?_ fun _ _ z => z⟩
 rintro v3 s3 ⟨d3, H3, i3, S3, st3, q⟩
 exact ⟨d3, H3, i3, S3, (st1.trans st2).trans st3, q⟩
inductive MeQ (G : Gd) (n : Nat) (env : Env) (m : Loc) (pos : Pos) (e : Expr) (rest : List Expr) (C f x dx : Addr) (l : List (D × D)) (name : Str) (Q : D → Hp → Prop) (d : D) (H1 : Hp) : Prop
 | mk (ed : d = .ref x) (hx : H1 x = some (.ins C dx)) (hdx : H1 dx = some (.dct l)) (hl : sget name l = none) (h : EvL G n env m H1 pos (e :: rest) fun ds H2 => Cal G n H2 (.ref f) (.ref x :: ds) Q)
theorem Ev.meth {o name apos e rest pos x C dx l f} {pl : Sem Bool} (hg : plainGet G.K C name = true) (hf : findIn G.K (.ref C) name = some (some (.ref f))) (ht : isFn G.K (.ref f) = true) (hk : keepIn G.K (.ref f) = true)
  (h : Ev G n env m H o (MeQ G n env m pos e rest C f x dx l name Q))
  (he : autoParam (eval (.Call (.Attribute o name apos) (e :: rest) [] pos) env = (do
   let ov ← eval o env
   standAt apos.atName
   let (f, first) ← holding [ov] (getMethod ov name pl)
   callWith pos f first (backTo pos (starEach (e :: rest) env)) [])) aR)
  (hs : autoParam (starEach (e :: rest) env = (false, eval e env) :: starEach rest env) aR) (hp : autoParam ((backTo pos (starEach rest env)).any (·.1) = false) aR) :
  Ev G n env m H (.Call (.Attribute o name apos) (e :: rest) [] pos) Q := by
 exact Ev.methE hg hf ht hk (h.mono fun d H1 ⟨ed, hx, hdx, hl, h1⟩ => ⟨x, dx, l, ed, hx, hdx, hl, h1⟩) he hs hp
theorem subscripted_false (slice : Expr) (o i : Value) : ∃ ops, subscripted slice false o i = operate ops (getItem o i) := by
 cases slice with
 | Slice lo hi st p => cases st <;> exact ⟨_, rfl⟩
 | _ => exact ⟨_, rfl⟩
theorem Item.lst {a l k d} (hH : H a = some (.lst l)) (h0 : 0 ≤ k) (hx : l[k.toNat]? = some d) (q : Q d H) (hs : l.length < 2 ^ 62 := by simp) : Item G n H (.ref a) (.int k) Q := fun value slice s v w i j B A T O S => by
 (first | (replace i := i.inv; obtain rfl := i) | (replace i := i.inv; obtain ⟨_, rfl⟩ := i) | cases i); replace j := j.inv; obtain ⟨u, rfl⟩ := j
 obtain ⟨_, vs, t, i⟩ := S.own _ _ hH
 obtain ⟨v, h1, h2⟩ := i.get hx
 have hlt : k.toNat < l.length := (List.getElem?_eq_some_iff.mp hx).1
 obtain ⟨ops, e⟩ := subscripted_false slice (.ref a) (.int k u)
 exact tail_any t.isList.typeIs slot_list_getitem.lookup (wpAny_getItem_list t.isList h0 (by one_sign) (by simpa using h1) ⟨_, _, h2, S, .refl _, q⟩) e
theorem Item.tup {l k j d} (hj : seqIndex? k l.length = some j) (hx : l[j]? = some d) (q : Q d H) (hlo : autoParam (-(2 ^ 63) ≤ k) aD) (hhi : autoParam (k < 2 ^ 63) aD) : Item G n H (.tup l) (.int k) Q := fun value slice s v w i jj B A T O S => by
 replace i := i.inv; obtain ⟨a, vs, rfl, t, i⟩ := i; replace jj := jj.inv; obtain ⟨u, rfl⟩ := jj
 obtain ⟨v, h1, h2⟩ := i.get hx
 obtain ⟨ops, e⟩ := subscripted_false slice (.ref a) (.int k u)
 exact tail_any t.typeIs slot_tuple_getitem.lookup (getItem_tuple t hlo hhi (by rw [List.size_toArray, i.length]; exact hj) (by simpa using h1) ⟨_, _, h2, S, .refl _, q⟩) e
theorem Cal.lenL {a l} (hH : H a = some (.lst l)) (q : Q (.int l.length) H) (hs : l.length < 2 ^ 62 := by simp) : Cal G n H (.builtin "len") [.ref a] Q := fun s vs i B A T O S => by
 replace i := i.inv; obtain ⟨_, _, rfl, i, j⟩ := i
 (first | (replace i := i.inv; obtain rfl := i) | (replace i := i.inv; obtain ⟨_, rfl⟩ := i) | cases i); (first | (replace j := j.inv; obtain rfl := j) | (replace j := j.inv; obtain ⟨_, rfl⟩ := j) | cases j)
 obtain ⟨_, vs, t, i⟩ := S.own _ _ hH
 refine len_list t.isList (by rw [List.size_toArray, i.length]; one_sign) ⟨_, _, ?_, S, .tok, q⟩
 rw [List.size_toArray, i.length]; exact .int _ _
end
end
section
set_option tactic.hygienic false
structure EvP (G : Gd) (n : Nat) (env : Env) (m : Loc) (H : Hp) (e : Expr) (d : D) : Prop where
 h : Ev G n env m H e fun d' H' => d' = d ∧ H' = H
structure EvPB (G : Gd) (n : Nat) (env : Env) (m : Loc) (H : Hp) (e : Expr) (b : Bool) : Prop where
 h : EvB G n env m H e fun b' H' => b' = b ∧ H' = H
structure EvPL (G : Gd) (n : Nat) (env : Env) (m : Loc) (H : Hp) (pos : Pos) (es : List Expr) (ds : List D) : Prop where
 h : EvL G n env m H pos es fun ds' H' => ds' = ds ∧ H' = H
structure CalP (G : Gd) (n : Nat) (H : Hp) (f : Value) (ds : List D) (d : D) : Prop where
 h : Cal G n H f ds fun d' H' => d' = d ∧ H' = H
structure CmpP (G : Gd) (n : Nat) (H : Hp) (op : CmpOp) (d1 d2 : D) (b : Bool) : Prop where
 h : Cmp G n H op d1 d2 fun d' H' => d' = .bool b ∧ H' = H
structure BinP (G : Gd) (n : Nat) (H : Hp) (op : Operator) (d1 d2 : D) (d : D) : Prop where
 h : Bin G n H op d1 d2 fun d' H' => d' = d ∧ H' = H
structure ItemP (G : Gd) (n : Nat) (H : Hp) (d1 d2 : D) (d : D) : Prop where
 h : Item G n H d1 d2 fun d' H' => d' = d ∧ H' = H
structure GetP (G : Gd) (n : Nat) (H : Hp) (d1 : D) (x : Str) (d : D) : Prop where
 h : Get G n H d1 x fun d' H' => d' = d ∧ H' = H
structure TruP (G : Gd) (n : Nat) (H : Hp) (d : D) (b : Bool) : Prop where
 h : Tru G n H d fun b' H' => b' = b ∧ H' = H
structure ExP (G : Gd) (n : Nat) (env : Env) (m : Loc) (H : Hp) (ss : List Stmt) (d : D) : Prop where
 h : Ex G n env m H ss fun f _ H' => f = .ret d ∧ H' = H
noncomputable def truth : D → Bool
 | .none => false
 | .bool b => b
 | .int i => i != 0
 | .str s => (s.length : Int) != 0
 | .tup l => !l.isEmpty
 | _ => true
noncomputable def nt : D → Bool
 | .none => true
 | .tup _ => true
 | .bool _ => true
 | _ => false
section
variable {G : Gd} {n : Nat} {env : Env} {m : Loc} {H : Hp}
theorem EvP.to {e d} {Q : D → Hp → Prop} (h : EvP G n env m H e d) (q : Q d H) : Ev G n env m H e Q := Ev.mono h.h fun d' H' ⟨a, b⟩ => by subst a b; exact q
theorem EvPB.to {e b} {Q : Bool → Hp → Prop} (h : EvPB G n env m H e b) (q : Q b H) : EvB G n env m H e Q := EvB.mono h.h fun d' H' ⟨a, b⟩ => by subst a b; exact q
theorem EvPL.to {pos es ds} {Q : List D → Hp → Prop} (h : EvPL G n env m H pos es ds) (q : Q ds H) : EvL G n env m H pos es Q := EvL.mono h.h fun d' H' ⟨a, b⟩ => by subst a b; exact q
theorem Cal.mono {f ds} {Q Q' : D → Hp → Prop} (h : Cal G n H f ds Q) (q : ∀ d H', Q d H' → Q' d H') : Cal G n H f ds Q' := fun s vs i => (h s vs i).mono q
theorem Cal.le {k f ds} {Q : D → Hp → Prop} (h : Cal G k H f ds Q) (q : k ≤ n) : Cal G n H f ds Q := fun s vs i => (h s vs i).le q
theorem CalP.le {k f ds d} (h : CalP G k H f ds d) (q : k ≤ n) : CalP G n H f ds d := ⟨Cal.le h.h q⟩
theorem CalP.to {f ds d} {Q : D → Hp → Prop} (h : CalP G n H f ds d) (q : Q d H) : Cal G n H f ds Q := Cal.mono h.h fun d' H' ⟨a, b⟩ => by subst a b; exact q
theorem CalP.conv {f ds d d'} (h : CalP G n H f ds d) (e : d = d') : CalP G n H f ds d' := e ▸ h
theorem EvP.conv {e d d'} (h : EvP G n env m H e d) (q : d = d') : EvP G n env m H e d' := q ▸ h
theorem EvP.cnone {k pos} : EvP G n env m H (.Constant .none k pos) .none := ⟨Ev.cnone ⟨rfl, rfl⟩⟩
theorem EvP.cbool {b k pos} : EvP G n env m H (.Constant (.bool b) k pos) (.bool b) := ⟨Ev.cbool ⟨rfl, rfl⟩⟩
theorem EvP.cint {i k pos} : EvP G n env m H (.Constant (.int i) k pos) (.int i) := ⟨Ev.cint ⟨rfl, rfl⟩⟩
theorem EvP.cstr {x k pos} : EvP G n env m H (.Constant (.str x) k pos) (.str x) := ⟨Ev.cstr ⟨rfl, rfl⟩⟩
theorem EvP.loc {x pos d} (hv : m x = some d) (hk : autoParam (env.scope.kind = .function) aR) (hx : autoParam (env.kindOf x = some .local) aR) (hd : autoParam ((x == ("__debug__" : Str)) = false) aD) : EvP G n env m H (.Name x pos) d := ⟨Ev.loc hv ⟨rfl, rfl⟩ hk hx hd⟩
theorem EvP.cell {x pos d c} (hc : env.cells.lookup x = some c) (hH : H c = some (.cel (some d))) (hk : autoParam (env.scope.kind = .function) aR) (hx : autoParam (env.kindOf x = some .cell) aR) (hd : autoParam ((x == ("__debug__" : Str)) = false) aD) :
  EvP G n env m H (.Name x pos) d := ⟨Ev.cell hc hH ⟨rfl, rfl⟩ hk hx hd⟩
theorem EvP.glob {x pos v d} (e : nsIn G.K mainGlobals x = some (some v)) (hd' : IsTop G v d) (hk : autoParam (env.scope.kind = .function) aR) (hg : autoParam (env.globals = mainGlobals) aR) (hx : autoParam (env.kindOf x = some .globalImplicit) aR) (hd : autoParam ((x == ("__debug__" : Str)) = false) aD) :
  EvP G n env m H (.Name x pos) d := ⟨Ev.glob e hd' ⟨rfl, rfl⟩ hk hg hx hd⟩
theorem EvP.bin {op l r pos d1 d2 d} (h1 : EvP G n env m H l d1) (h2 : EvP G n env m H r d2) (h3 : BinP G n H op d1 d2 d) : EvP G n env m H (.BinOp l op r pos) d := ⟨Ev.bin (h1.to (h2.to h3.h))⟩
theorem BinP.add {a b} : BinP G n H .Add (.int a) (.int b) (.int (a + b)) := ⟨Bin.addI ⟨rfl, rfl⟩⟩
theorem BinP.sub {a b} : BinP G n H .Sub (.int a) (.int b) (.int (a - b)) := ⟨Bin.subI ⟨rfl, rfl⟩⟩
theorem BinP.mul {a b} (hm : IntMulOk a b) : BinP G n H .Mult (.int a) (.int b) (.int (a * b)) := ⟨Bin.mulI hm ⟨rfl, rfl⟩⟩
theorem BinP.mod {a b} (hb : b ≠ 0) : BinP G n H .Mod (.int a) (.int b) (.int (a.fmod b)) := ⟨Bin.modI hb ⟨rfl, rfl⟩⟩
theorem BinP.div {a b} (hb : b ≠ 0) (hp : Builtin.divisionGoesByPylong a b = false) : BinP G n H .FloorDiv (.int a) (.int b) (.int (a.fdiv b)) := ⟨Bin.divI hb hp ⟨rfl, rfl⟩⟩
theorem EvP.neg {e pos a} (h : EvP G n env m H e (.int a)) : EvP G n env m H (.UnaryOp .USub e pos) (.int (-a)) := ⟨Ev.una (h.to (Una.neg ⟨rfl, rfl⟩))⟩
theorem EvP.cmp {op l r pos d1 d2 b} (h1 : EvP G n env m H l d1) (h2 : EvP G n env m H r d2) (h3 : CmpP G n H op d1 d2 b) (hm : autoParam (behindInMarks op r = false) aW) : EvP G n env m H (.Compare l [op] [r] pos) (.bool b) := ⟨Ev.cmp (h1.to (h2.to h3.h)) hm⟩
theorem CmpP.lt {a b} : CmpP G n H .Lt (.int a) (.int b) (decide (a < b)) := ⟨Cmp.ltI ⟨rfl, rfl⟩⟩
theorem CmpP.lte {a b} : CmpP G n H .LtE (.int a) (.int b) (decide (a ≤ b)) := ⟨Cmp.leI ⟨rfl, rfl⟩⟩
theorem CmpP.gt {a b} : CmpP G n H .Gt (.int a) (.int b) (decide (a > b)) := ⟨Cmp.gtI ⟨rfl, rfl⟩⟩
theorem CmpP.gte {a b} : CmpP G n H .GtE (.int a) (.int b) (decide (a ≥ b)) := ⟨Cmp.geI ⟨rfl, rfl⟩⟩
theorem CmpP.eq {d e} (h : autoParam (dk d e = true) aR) : CmpP G n H .Eq d e (deq d e) := ⟨Cmp.eq ⟨rfl, rfl⟩ h⟩
theorem CmpP.ne {d e} (h : autoParam (dk d e = true) aR) : CmpP G n H .NotEq d e (!deq d e) := ⟨Cmp.ne ⟨rfl, rfl⟩ h⟩
theorem CmpP.is {d} : CmpP G n H .Is d .none (isN d) := ⟨Cmp.isN ⟨rfl, rfl⟩⟩
theorem CmpP.isnot {d} : CmpP G n H .IsNot d .none (!isN d) := ⟨Cmp.isnotN ⟨rfl, rfl⟩⟩
theorem CmpP.inT {d l} (h : autoParam ((l.all fun e => dk e d) = true) aR) (hn : 1 ≤ n := by one_sign) : CmpP G n H .In d (.tup l) (l.any fun e => deq e d) := ⟨Cmp.inT ⟨rfl, rfl⟩ h hn⟩
theorem CmpP.ninT {d l} (h : autoParam ((l.all fun e => dk e d) = true) aR) (hn : 1 ≤ n := by one_sign) : CmpP G n H .NotIn d (.tup l) (!l.any fun e => deq e d) := ⟨Cmp.ninT ⟨rfl, rfl⟩ h hn⟩
theorem truthy_tup {s : Shared} {v : Value} {l : List D} {A : Around} {prog : Program} {w : World} {E : Value → Shared → Prop} {Q : Bool → Shared → Prop} (i : Is s.heap v (.tup l)) (hs : l.length < 2 ^ 62) (h : Q (!l.isEmpty) { s with toks := s.toks + 1 + 1 }) : wpAny (model prog w) A (truthy v) Q E s := by
 replace i := i.inv; obtain ⟨a, vs, rfl, t, i⟩ := i
 refine truthy_tuple t (by rw [List.size_toArray, i.length]; one_sign) ?_
 have : (!vs.toArray.isEmpty) = !l.isEmpty := by cases i <;> rfl
 first | (rw [this]; exact h) | (simpa [this] using h)
noncomputable def ntl : D → Bool
 | .none => true
 | .tup l => decide (l.length < 1000)
 | .bool _ => true
 | _ => false
theorem TruP.data {d} (h : ntl d = true) : TruP G n H d (truth d) := by
 cases d with
 | none => exact ⟨Tru.none ⟨rfl, rfl⟩⟩
 | bool b => exact ⟨Tru.bool ⟨rfl, rfl⟩⟩
 | tup l => exact ⟨fun s v i B A T O S => truthy_tup i (by have := of_decide_eq_true h; one_sign) ⟨_, _, rfl, S, .tok, rfl, rfl⟩⟩
 | _ => cases h
theorem TruP.bool {b} : TruP G n H (.bool b) b := ⟨Tru.bool ⟨rfl, rfl⟩⟩
theorem EvPB.cmp {op l r pos d1 d2 b} (h1 : EvP G n env m H l d1) (h2 : EvP G n env m H r d2) (h3 : CmpP G n H op d1 d2 b) (hm : autoParam (behindInMarks op r = false) aW) : EvPB G n env m H (.Compare l [op] [r] pos) b := ⟨EvB.cmp (h1.to (h2.to fun s v w i j => (h3.h s v w i j).mono fun _ _ ⟨a, b⟩ => by subst a b; exact Tru.bool ⟨rfl, rfl⟩)) hm⟩
theorem EvPB.plain {e d b} (h : EvP G n env m H e d) (t : TruP G n H d b) (he : autoParam (isTrue e env (eval e env) = (do let v ← eval e env; standAt e.pos; holding [v] (truthy v))) aR) : EvPB G n env m H e b := ⟨EvB.plain (h.to t.h) he⟩
theorem EvPB.not {e pos b} (h : EvPB G n env m H e b) : EvPB G n env m H (.UnaryOp .Not e pos) (!b) := ⟨EvB.not (h.to ⟨rfl, rfl⟩)⟩
theorem EvPB.and {x y rest pos a b} (h1 : EvPB G n env m H x a) (h2 : a = true → EvPB G n env m H (.BoolOp .And (y :: rest) pos) b) : EvPB G n env m H (.BoolOp .And (x :: y :: rest) pos) (a && b) := ⟨EvB.and (h1.to ⟨fun e => by subst e; exact (h2 rfl).h, fun e => by subst e; exact ⟨rfl, rfl⟩⟩)⟩
theorem EvPB.and1 {x pos a} (h1 : EvPB G n env m H x a) : EvPB G n env m H (.BoolOp .And [x] pos) a := ⟨EvB.and (h1.to ⟨fun e => by subst e; exact EvB.and_nil ⟨rfl, rfl⟩, fun e => by subst e; exact ⟨rfl, rfl⟩⟩)⟩
theorem EvPB.or {x y rest pos a b} (h1 : EvPB G n env m H x a) (h2 : a = false → EvPB G n env m H (.BoolOp .Or (y :: rest) pos) b) : EvPB G n env m H (.BoolOp .Or (x :: y :: rest) pos) (a || b) := ⟨EvB.or (h1.to ⟨fun e => by subst e; exact ⟨rfl, rfl⟩, fun e => by subst e; exact (h2 rfl).h⟩)⟩
theorem EvPB.or1 {x pos a} (h1 : EvPB G n env m H x a) : EvPB G n env m H (.BoolOp .Or [x] pos) a := ⟨EvB.or (h1.to ⟨fun e => by subst e; exact ⟨rfl, rfl⟩, fun e => by subst e; exact EvB.or_nil ⟨rfl, rfl⟩⟩)⟩
theorem EvPB.chain2 {l op1 op2 r1 r2 pos d1 d2 d3 a b} (h1 : EvP G n env m H l d1) (h2 : EvP G n env m H r1 d2) (h3 : CmpP G n H op1 d1 d2 a) (h4 : EvP G n env m H r2 d3) (h5 : CmpP G n H op2 d2 d3 b)
  (hm : autoParam (lastMarks [op1, op2] [r1, r2] = false) aW) : EvPB G n env m H (.Compare l [op1, op2] [r1, r2] pos) (a && b) := ⟨EvB.chain (h1.to (Ch.link (h2.to fun s v w i j => (h3.h s v w i j).mono fun _ _ ⟨x, y⟩ => by
  subst x y; exact Tru.bool ⟨fun e => by
   subst e; exact Ch.last (h4.to fun s v w i j => (h5.h s v w i j).mono fun _ _ ⟨x, y⟩ => by subst x y; exact Tru.bool ⟨rfl, rfl⟩), fun e => by subst e; exact ⟨rfl, rfl⟩⟩))) hm⟩
theorem EvP.and {x y rest pos a b} (h1 : EvP G n env m H x (.bool a)) (h2 : a = true → EvP G n env m H (.BoolOp .And (y :: rest) pos) (.bool b)) : EvP G n env m H (.BoolOp .And (x :: y :: rest) pos) (.bool (a && b)) := ⟨Ev.and (h1.to (Tru.bool ⟨fun e => by subst e; exact (h2 rfl).h, fun e => by subst e; exact ⟨rfl, rfl⟩⟩))⟩
theorem EvP.one {op x pos d} (h1 : EvP G n env m H x d) : EvP G n env m H (.BoolOp op [x] pos) d := ⟨Ev.one h1.h⟩
theorem EvP.orB {x y rest pos a b} (h1 : EvP G n env m H x (.bool a)) (h2 : a = false → EvP G n env m H (.BoolOp .Or (y :: rest) pos) (.bool b)) : EvP G n env m H (.BoolOp .Or (x :: y :: rest) pos) (.bool (a || b)) := ⟨Ev.or (h1.to (Tru.bool ⟨fun e => by subst e; exact ⟨rfl, rfl⟩, fun e => by subst e; exact (h2 rfl).h⟩))⟩
theorem EvP.or {x y rest pos d1 d2} (h1 : EvP G n env m H x d1) (h : ntl d1 = true) (h2 : EvP G n env m H (.BoolOp .Or (y :: rest) pos) d2) : EvP G n env m H (.BoolOp .Or (x :: y :: rest) pos) (bif truth d1 then d1 else d2) := ⟨Ev.or (h1.to fun s v i => ((TruP.data h).h s v i).mono fun b _ ⟨p, q⟩ => by
  subst p q
  exact ⟨fun e => by rw [e]; exact ⟨rfl, rfl⟩, fun e => by rw [e]; exact h2.h⟩)⟩
theorem EvP.ifx {c a b pos x d1 d2} (h1 : EvPB G n env m H c x) (h2 : x = true → EvP G n env m H a d1) (h3 : x = false → EvP G n env m H b d2) : EvP G n env m H (.IfExp c a b pos) (bif x then d1 else d2) := ⟨Ev.ifx (h1.to ⟨fun e => by subst e; exact (h2 rfl).h, fun e => by subst e; exact (h3 rfl).h⟩)⟩
theorem EvP.ifxI {c a b pos x i j} (h1 : EvPB G n env m H c x) (h2 : x = true → EvP G n env m H a (.int i)) (h3 : x = false → EvP G n env m H b (.int j)) : EvP G n env m H (.IfExp c a b pos) (.int (bif x then i else j)) :=
 (EvP.ifx h1 h2 h3).conv (by cases x <;> rfl)
theorem EvP.attr {value attr pos d1 d} (h1 : EvP G n env m H value d1) (h2 : GetP G n H d1 attr d)
  (he : autoParam (eval (.Attribute value attr pos) env = (do
   let o ← eval value env
   standAt pos.atName
   let r ← holding [o] (getAttr o attr true)
   letTemporaryGo value o r
   pure r)) aW) : EvP G n env m H (.Attribute value attr pos) d := ⟨Ev.attr (h1.to h2.h) he⟩
theorem GetP.own {x C dx l name d attr} (h1 : H x = some (.ins C dx)) (h2 : H dx = some (.dct l)) (hl : sget name l = some d) (hg : plainGet G.K C name = true) (hh : hasDictIn G.K C = true) (ha : findIn G.K (.ref C) name = some attr) (hn : noGet G.K attr = true)
  (hd : ∀ id, d ≠ .bi id := by intro _ e; cases e) : GetP G n H (.ref x) name d := ⟨Get.own h1 h2 hl hg hh ha hn ⟨rfl, rfl⟩ hd⟩
theorem EvP.item {value slice pos d1 d2 d} (h1 : EvP G n env m H value d1) (h2 : EvP G n env m H slice d2) (h3 : ItemP G n H d1 d2 d) : EvP G n env m H (.Subscript value slice pos) d := ⟨Ev.item (h1.to (h2.to h3.h))⟩
theorem ItemP.lst {a l k d} (hH : H a = some (.lst l)) (h0 : 0 ≤ k) (hx : l[k.toNat]? = some d) (hs : l.length < 2 ^ 62 := by simp) : ItemP G n H (.ref a) (.int k) d := ⟨Item.lst hH h0 hx ⟨rfl, rfl⟩ hs⟩
theorem ItemP.tup {l k j d} (hj : seqIndex? k l.length = some j) (hx : l[j]? = some d) (hlo : autoParam (-(2 ^ 63) ≤ k) aD) (hhi : autoParam (k < 2 ^ 63) aD) : ItemP G n H (.tup l) (.int k) d := ⟨Item.tup hj hx ⟨rfl, rfl⟩ hlo hhi⟩
theorem EvPL.nil {pos} : EvPL G n env m H pos [] [] := ⟨EvL.nil ⟨rfl, rfl⟩⟩
theorem EvPL.cons {e rest pos d ds} (h1 : EvP G n env m H e d) (h2 : EvPL G n env m H pos rest ds) (he : autoParam (starEach (e :: rest) env = (false, eval e env) :: starEach rest env) aR) : EvPL G n env m H pos (e :: rest) (d :: ds) := ⟨EvL.cons (h1.to (h2.to ⟨rfl, rfl⟩)) he⟩
theorem EvP.tup {es k pos ds} (h : EvPL G n env m H pos es ds) (hs : ds.length ≤ sizeLine := by exact Nat.le_of_ble_eq_true rfl) : EvP G n env m H (.Tuple es k pos) (.tup ds) := ⟨Ev.tup (h.to ⟨hs, rfl, rfl⟩)⟩
theorem EvP.callD {x p e rest pos f ds d} (hk : keepIn G.K (.ref f) = true) (h : EvP G n env m H (.Name x p) (.ref f)) (h2 : EvPL G n env m H pos (e :: rest) ds) (h3 : CalP G n H (.ref f) ds d)
  (he : autoParam (starEach (e :: rest) env = (false, eval e env) :: starEach rest env) aR) (hp : autoParam ((backTo pos (starEach rest env)).any (·.1) = false) aR) : EvP G n env m H (.Call (.Name x p) (e :: rest) [] pos) d := ⟨Ev.callD hk (h.to ⟨rfl, h2.to h3.h⟩) he hp⟩
theorem EvP.callB {x p e rest pos id ds d} (hx' : nsIn G.K mainGlobals x = some none) (hv : bootBuiltins x = some (.builtin id)) (h2 : EvPL G n env m H pos (e :: rest) ds) (h3 : CalP G n H (.builtin id) ds d)
  (hk : autoParam (env.scope.kind = .function) aR) (hg : autoParam (env.globals = mainGlobals) aR) (hb : autoParam (env.builtins = builtinsNs) aR) (hn : autoParam (x ≠ "__name__") aD)
  (hx : autoParam (env.kindOf x = some .globalImplicit) aR) (hd : autoParam ((x == ("__debug__" : Str)) = false) aD)
  (he : autoParam (starEach (e :: rest) env = (false, eval e env) :: starEach rest env) aR) (hp : autoParam ((backTo pos (starEach rest env)).any (·.1) = false) aR) : EvP G n env m H (.Call (.Name x p) (e :: rest) [] pos) d := ⟨Ev.callB (Ev.built hx' hv (fun _ => .bi _) ⟨rfl, h2.to h3.h⟩ hk hg hb hn hx hd) he hp⟩
theorem CalP.lenL {a l} (hH : H a = some (.lst l)) (hs : l.length < 2 ^ 62 := by simp) : CalP G n H (.builtin "len") [.ref a] (.int l.length) := ⟨Cal.lenL hH ⟨rfl, rfl⟩ hs⟩
theorem EvP.meth {o name apos e rest pos x C dx l f ds d} {pl : Sem Bool} (h1 : H x = some (.ins C dx)) (h2 : H dx = some (.dct l)) (h3 : sget name l = none) (hg : plainGet G.K C name = true) (hf : findIn G.K (.ref C) name = some (some (.ref f))) (ht : isFn G.K (.ref f) = true) (hk : keepIn G.K (.ref f) = true)
  (h : EvP G n env m H o (.ref x)) (h4 : EvPL G n env m H pos (e :: rest) ds) (h5 : CalP G n H (.ref f) (.ref x :: ds) d)
  (he : autoParam (eval (.Call (.Attribute o name apos) (e :: rest) [] pos) env = (do
   let ov ← eval o env
   standAt apos.atName
   let (f, first) ← holding [ov] (getMethod ov name pl)
   callWith pos f first (backTo pos (starEach (e :: rest) env)) [])) aR)
  (hs : autoParam (starEach (e :: rest) env = (false, eval e env) :: starEach rest env) aR) (hp : autoParam ((backTo pos (starEach rest env)).any (·.1) = false) aR) :
  EvP G n env m H (.Call (.Attribute o name apos) (e :: rest) [] pos) d := ⟨Ev.meth (x := x) (C := C) (dx := dx) (l := l) (f := f) (pl := pl) hg hf ht hk (h.to ⟨rfl, h1, h2, h3, h4.to h5.h⟩) he hs hp⟩
variable {rest : List Stmt}
theorem ExP.ret {e pos d} (h : EvP G n env m H e d) : ExP G n env m H (.Return (some e) pos :: rest) d := ⟨Ex.ret (h.to ⟨rfl, rfl⟩)⟩
theorem ExP.iteR {test body pos x d1 d2} (h1 : EvPB G n env m H test x) (h2 : x = true → ExP G n env m H body d1) (h3 : x = false → ExP G n env m H rest d2) : ExP G n env m H (.If test body [] pos :: rest) (bif x then d1 else d2) := ⟨Ex.ite (h1.to ⟨fun e => by subst e; exact Ex.mono (h2 rfl).h fun f m' H' ⟨a, b⟩ => by subst a; exact ⟨rfl, b⟩, fun e => by subst e; exact Ex.nil (h3 rfl).h⟩)⟩
theorem ExP.asg {x pos' value pos d d'} (h : EvP G n env m H value d) (h2 : ExP G n env (lset m x d) H rest d') (hs : autoParam (swapsWith value (some (.Name x pos')) pos.line env = pure false) aR) (hk : autoParam (env.scope.kind = .function) aR) (hx : autoParam (env.kindOf x = some .local) aR) :
  ExP G n env m H (.Assign [.Name x pos'] value pos :: rest) d' := ⟨Ex.asg (h.to (Asg.name h2.h hk hx)) hs⟩
theorem ExP.asgS {elts k tpos value pos names ds d'} (h : EvP G n env m H value (.tup ds)) (hl : names.length = ds.length) (h2 : StoL G n env m H names.reverse ds.reverse fun m2 H2 => Ex G n env m2 H2 rest fun f _ H' => f = .ret d' ∧ H' = H)
  (hs : autoParam (swapsWithSole [.Tuple elts k tpos] value pos.line env = pure false) aR) (hw : autoParam (swappedStores [.Tuple elts k tpos] value env = pure (some names)) aR) :
  ExP G n env m H (.Assign [.Tuple elts k tpos] value pos :: rest) d' := ⟨Ex.asgS (h.to ⟨ds, rfl, hl, h2⟩) hs hw⟩
theorem ExP.asgS2 {x y px py k tpos value pos d1 d2 d'} (h : EvP G n env m H value (.tup [d1, d2])) (h2 : ExP G n env (lset (lset m y d2) x d1) H rest d') (hk : autoParam (env.scope.kind = .function) aR) (hx : autoParam (env.kindOf x = some .local) aR) (hy : autoParam (env.kindOf y = some .local) aR)
  (hs : autoParam (swapsWithSole [.Tuple [.Name x px, .Name y py] k tpos] value pos.line env = pure false) aR) (hw : autoParam (swappedStores [.Tuple [.Name x px, .Name y py] k tpos] value env = pure (some [x, y])) aR) :
  ExP G n env m H (.Assign [.Tuple [.Name x px, .Name y py] k tpos] value pos :: rest) d' := ExP.asgS (names := [x, y]) h rfl ⟨hk, hy, hk, hx, h2.h⟩ hs hw
theorem ExP.asgS3 {x y z px py pz k tpos value pos d1 d2 d3 d'} (h : EvP G n env m H value (.tup [d1, d2, d3])) (h2 : ExP G n env (lset (lset (lset m z d3) y d2) x d1) H rest d') (hk : autoParam (env.scope.kind = .function) aR) (hx : autoParam (env.kindOf x = some .local) aR) (hy : autoParam (env.kindOf y = some .local) aR) (hz : autoParam (env.kindOf z = some .local) aR)
  (hs : autoParam (swapsWithSole [.Tuple [.Name x px, .Name y py, .Name z pz] k tpos] value pos.line env = pure false) aR) (hw : autoParam (swappedStores [.Tuple [.Name x px, .Name y py, .Name z pz] k tpos] value env = pure (some [x, y, z])) aR) :
  ExP G n env m H (.Assign [.Tuple [.Name x px, .Name y py, .Name z pz] k tpos] value pos :: rest) d' := ExP.asgS (names := [x, y, z]) h rfl ⟨hk, hz, hk, hy, hk, hx, h2.h⟩ hs hw
theorem BindsTo.one {s : Shared} {fd : FuncData} {x : Str} {d1 : D} (h : ∀ a, bindArgs fd ⟨[a], []⟩ = pure [(x, a)]) {vs : List Value} (i : IsL s.heap vs [d1]) :
  ∃ ws, BindsTo s fd ⟨vs, []⟩ ([x].zip ws) ∧ IsL s.heap ws [d1] := by
 replace i := i.inv; obtain ⟨_, _, rfl, a, i⟩ := i
 (first | (replace i := i.inv; obtain rfl := i) | (replace i := i.inv; obtain ⟨_, rfl⟩ := i) | cases i)
 exact ⟨_, BindsTo.of_eq (h _), .cons a .nil⟩
theorem BindsTo.two {s : Shared} {fd : FuncData} {x y : Str} {d1 d2 : D} (h : ∀ a b, bindArgs fd ⟨[a, b], []⟩ = pure [(x, a), (y, b)]) {vs : List Value} (i : IsL s.heap vs [d1, d2]) :
  ∃ ws, BindsTo s fd ⟨vs, []⟩ ([x, y].zip ws) ∧ IsL s.heap ws [d1, d2] := by
 replace i := i.inv; obtain ⟨_, _, rfl, a, i⟩ := i
 replace i := i.inv; obtain ⟨_, _, rfl, b, i⟩ := i
 (first | (replace i := i.inv; obtain rfl := i) | (replace i := i.inv; obtain ⟨_, rfl⟩ := i) | cases i)
 exact ⟨_, BindsTo.of_eq (h _ _), .cons a (.cons b .nil)⟩
theorem BindsTo.three {s : Shared} {fd : FuncData} {x y z : Str} {d1 d2 d3 : D} (h : ∀ a b c, bindArgs fd ⟨[a, b, c], []⟩ = pure [(x, a), (y, b), (z, c)]) {vs : List Value} (i : IsL s.heap vs [d1, d2, d3]) :
  ∃ ws, BindsTo s fd ⟨vs, []⟩ ([x, y, z].zip ws) ∧ IsL s.heap ws [d1, d2, d3] := by
 replace i := i.inv; obtain ⟨_, _, rfl, a, i⟩ := i
 replace i := i.inv; obtain ⟨_, _, rfl, b, i⟩ := i
 replace i := i.inv; obtain ⟨_, _, rfl, c, i⟩ := i
 (first | (replace i := i.inv; obtain rfl := i) | (replace i := i.inv; obtain ⟨_, rfl⟩ := i) | cases i)
 exact ⟨_, BindsTo.of_eq (h _ _ _), .cons a (.cons b (.cons c .nil))⟩
theorem BindsTo.four {s : Shared} {fd : FuncData} {x y z u : Str} {d1 d2 d3 d4 : D} (h : ∀ a b c d, bindArgs fd ⟨[a, b, c, d], []⟩ = pure [(x, a), (y, b), (z, c), (u, d)]) {vs : List Value} (i : IsL s.heap vs [d1, d2, d3, d4]) :
  ∃ ws, BindsTo s fd ⟨vs, []⟩ ([x, y, z, u].zip ws) ∧ IsL s.heap ws [d1, d2, d3, d4] := by
 replace i := i.inv; obtain ⟨_, _, rfl, a, i⟩ := i
 replace i := i.inv; obtain ⟨_, _, rfl, b, i⟩ := i
 replace i := i.inv; obtain ⟨_, _, rfl, c, i⟩ := i
 replace i := i.inv; obtain ⟨_, _, rfl, d, i⟩ := i
 (first | (replace i := i.inv; obtain rfl := i) | (replace i := i.inv; obtain ⟨_, rfl⟩ := i) | cases i)
 exact ⟨_, BindsTo.of_eq (h _ _ _ _), .cons a (.cons b (.cons c (.cons d .nil)))⟩
end
theorem CalP.fn {G : Gd} {n : Nat} {H : Hp} {d : D} {f : Addr} {name qual : Str} {params : Arguments} {body : List Stmt} {scope : Scope} {dV kV doc pm cdv ct oc : Value} {an od : Option Addr} {osl : Array (Option Value)} {ds es : List D} (ks : List Str)
  (ho : G.K.lookup f = some ⟨oc, od, .func (fnOf name qual params body scope dV kV doc pm an cdv ct), osl⟩) (hcd : codeIn G.K cdv qual = true)
  (hbind : ∀ B, TopOk G B → ∀ s vs, (∀ b o, B.get? b = some o → s.heap.get? b = some o) → IsL s.heap vs ds → ∃ ws, BindsTo s (fnOf name qual params body scope dV kV doc pm an cdv ct) ⟨vs, []⟩ (ks.zip ws) ∧ IsL s.heap ws es)
  (h : ∀ L, H L = none → ExP G n (envX qual scope L f cdv []) (locOf ks es) H body d)
  (hcell : autoParam (∀ x ∈ scope.names, x.2 ≠ .cell) aD) (hloc : autoParam (∀ k ∈ ks, scope.names.lookup k = some .local) aD)
  (hco : autoParam (scope.isCoroutine = false) aR) (hgen : autoParam (scope.isGenerator = false) aR) (hk : autoParam (scope.kind = .function) aR) : CalP G (n + 1) H (.ref f) ds d := ⟨Cal.fn ks ho hcd hbind (fun L hL => Ex.mono (h L hL).h fun fl _ H' ⟨a, b⟩ => by subst a; exact ⟨rfl, b⟩) hcell hloc hco hgen hk⟩
end
section
set_option tactic.hygienic false
noncomputable def isTgt : Expr → Bool
 | .Name _ _ => true
 | .Tuple _ _ _ => true
 | _ => false
inductive FrP {β : Type} (p : Hp → Hp) (f : Hp → Prop) (Q : β → Hp → Prop) (d : β) (H' : Hp) : Prop
 | mk (H'' : Hp) (e : H' = p H'') (n : f H'') (q : Q d H'')
structure Src (G : Gd) where
 it : Addr
 tgt : Expr → Bool
 items : List D
 put : Nat → Hp → Hp
 fresh : Hp → Prop
 ok : Hp → Prop
 frame : ∀ {α β : Type} {R : Heap → α → β → Prop} {n : Nat} {H : Hp} {s : Shared} {t : Sem α} {Q : β → Hp → Prop} {k : Nat}, At R G n H s t Q → fresh H → At R G n (put k H) s t (FrP (put k) fresh Q)
 comm : ∀ {k k' : Nat} {H H' : Hp} {a : Addr} {x : X}, fresh H → fresh H' → (put k' H') a = none → fresh (H.set a x) ∧ put k (H.set a x) = (put k H).set a x ∧ (put k H) a = H a
 self : ∀ {k : Nat} {H : Hp} {B : Heap} {A : Around} {s : Shared}, fresh H → Sat G B (put k H) s.heap → wpAny (model G.prog G.w) A (pyIter (.ref it)) (fun v s' => v = .ref it ∧ s' = s) (fun _ _ => False) s
 sub : ∀ {k : Nat} {H : Hp} {a : Addr} {x : X}, fresh H → H a = some x → (put k H) a = some x
 okSet : ∀ {H : Hp} {a : Addr} {x : X}, H a = none → ok H → ok (H.set a x)
 head : ∀ {target : Expr} {k : Nat} {d : D} {H : Hp} {B : Heap} {A : Around} {s : Shared}, tgt target = true → items[k]? = some d → fresh H → ok H → TopOk G B → Ok A 1 → Sat G B (put k H) s.heap →
  wpAny (model G.prog G.w) A (pyNext (.ref it)) (fun r s₁ => ∃ v, r = some v ∧ wpAny (model G.prog G.w) A (letOwnedTupleGo target (.ref it) v) (fun _ s₂ => Is s₂.heap v d ∧ Sat G B (put (k + 1) H) s₂.heap ∧ Step s s₂) (fun _ _ => False) s₁) (fun _ _ => False) s
 done : ∀ {k : Nat} {H : Hp} {B : Heap} {A : Around} {s : Shared}, k = items.length → fresh H → ok H → TopOk G B → Ok A 1 → Sat G B (put k H) s.heap →
  wpAny (model G.prog G.w) A (pyNext (.ref it)) (fun r s₁ => r = none ∧ Sat G B H s₁.heap ∧ Step s s₁) (fun _ _ => False) s
noncomputable def Itr (G : Gd) (n : Nat) (H : Hp) (d : D) (tgt : Expr → Bool) (H₀ : Hp) (items : List D) (ok : Hp → Prop) : Prop := ∀ s v, Is s.heap v d →
 At (fun _ v (S : Src G) => v = .ref S.it) G n H s (pyIter v) fun S H' => S.tgt = tgt ∧ S.items = items ∧ S.ok = ok ∧ S.fresh H₀ ∧ H' = S.put 0 H₀
noncomputable def Lp (G : Gd) (n : Nat) (env : Env) (target : Expr) (body : List Stmt) (ok : Hp → Prop) : List D → Loc → Hp → (Fl → Loc → Hp → Prop) → Prop
 | [], m, H, Q => ok H ∧ Q .next m H
 | d :: ds, m, H, Q => ok H ∧ Asg G n env m H target d fun m1 H1 => Ex G n env m1 H1 body fun fl m2 H2 => match fl with
  | .next => Lp G n env target body ok ds m2 H2 Q
  | .cont => Lp G n env target body ok ds m2 H2 Q
  | .brk => Q .next m2 H2
  | .ret r => Q (.ret r) m2 H2
section
variable {G : Gd} {n : Nat} {env : Env} {m : Loc} {H : Hp} {Q : Fl → Loc → Hp → Prop} {rest : List Stmt}
inductive LpI (S : Src G) (n : Nat) (env : Env) (target : Expr) (body : List Stmt) (B : Heap) (s₀ : Shared) (Q : Fl → Loc → Hp → Prop) (j : Nat) (s' : Shared) : Prop
 | mk (k : Nat) (m : Loc) (H : Hp) (hj : j = S.items.length - k) (l : H env.locals = none) (f : S.fresh (H.set env.locals (.ns m))) (hS : Sat G B (S.put k (H.set env.locals (.ns m))) s'.heap) (st : Step s₀ s') (hk : k ≤ S.items.length) (q : Lp G n env target body S.ok (S.items.drop k) m H Q)
theorem loop_run (S : Src G) {target : Expr} {body : List Stmt} (ht : S.tgt target = true) {B : Heap} {A : Around} {s₀ : Shared} (T : TopOk G B) (O : Ok A n) (hn : 1 ≤ n) {s : Shared} {k : Nat} {m : Loc} {H : Hp}
  (hL : H env.locals = none) (hf : S.fresh (H.set env.locals (.ns m)))
  (hS : Sat G B (S.put k (H.set env.locals (.ns m))) s.heap) (st : Step s₀ s) (hk : k ≤ S.items.length) (h : Lp G n env target body S.ok (S.items.drop k) m H Q) :
  codeAny (model G.prog G.w) A (.forLoop target (.ref S.it) body [] env) (fun r s' => ∃ f, r = .ok f ∧ Got IsF G B s₀ (FS env.locals Q) f s') s := by
 refine codeAny_forLoop_any (LpI S n env target body B s₀ Q)
  ?_ (S.items.length - k) ⟨k, m, H, rfl, hL, hf, hS, st, hk, h⟩
 rintro j s' ⟨k, m, H, rfl, hL, hf, hS, st, hk, h⟩
 by_cases hlt : k < S.items.length
 ·have e : S.items.drop k = S.items[k] :: S.items.drop (k + 1) := List.drop_eq_getElem_cons hlt
  rw [e] at h
  obtain ⟨hok, h⟩ := h
  have hi : S.items[k]? = some S.items[k] := List.getElem?_eq_getElem hlt
  refine wpAny_mono (S.head ht hi hf (S.okSet hL hok) T (O.le hn) hS) ?_ fun _ _ z => z.elim
  rintro r s1 ⟨v, rfl, h1⟩
  refine wpAny_mono h1 ?_ fun _ _ z => z.elim
  rintro _ s2 ⟨i2, S2, st2⟩
  refine wpAny_mono (S.frame (h s2 v hL i2) hf B A T O S2) ?_ fun _ _ z => z.elim
  rintro _ s3 ⟨_, _, _, S3, st3, _, rfl, hf3, m3, H3, rfl, hL3, h3⟩
  refine wpAny_mono (S.frame (h3 s3 hL3) hf3 B A T O S3) ?_ fun _ _ z => z.elim
  rintro f s4 ⟨fl, _, i4, S4, st4, _, rfl, hf4, m4, H4, rfl, hL4, h4⟩
  have st' : Step s₀ s4 := ((st.trans st2).trans st3).trans st4
  have drop : ∀ {m' : Loc} {H' : Hp}, S.fresh (H'.set env.locals (.ns m')) → Sat G B (S.put (k + 1) (H'.set env.locals (.ns m'))) s4.heap → Sat G B (H'.set env.locals (.ns m')) s4.heap := fun b c => c.forget fun x y e => S.sub b e
  cases i4 with
  | next => exact ⟨_, by one_sign, k + 1, m4, H4, rfl, hL4, hf4, S4, st', by one_sign, h4⟩
  | cont => exact ⟨_, by one_sign, k + 1, m4, H4, rfl, hL4, hf4, S4, st', by one_sign, h4⟩
  | brk => exact ⟨_, rfl, .next, _, .next, drop hf4 S4, st', m4, H4, rfl, hL4, h4⟩
  | ret a => exact ⟨_, rfl, _, _, .ret a, drop hf4 S4, st', m4, H4, rfl, hL4, h4⟩
 ·obtain rfl : k = S.items.length := by one_sign
  rw [List.drop_length] at h
  refine wpAny_mono (S.done rfl hf (S.okSet hL h.1) T (O.le hn) hS) ?_ fun _ _ z => z.elim
  rintro r s1 ⟨rfl, S1, st1⟩
  exact wpAny_execs_nil ⟨_, rfl, .next, _, .next, S1, st.trans st1, m, H, rfl, hL, h.2⟩
inductive FoQ (G : Gd) (n : Nat) (env : Env) (target : Expr) (body : List Stmt) (m : Loc) (QR : Fl → Loc → Hp → Prop) (d : D) (H1 : Hp) : Prop
 | mk (tgt : Expr → Bool) (H₀ : Hp) (ds : List D) (ok : Hp → Prop) (it : Itr G n H1 d tgt H₀ ds ok) (ht : tgt target = true) (hL : H₀ env.locals = none) (lp : Lp G n env target body ok ds m H₀ QR)
theorem Ex.for' {target iter : Expr} {body : List Stmt} {pos : Pos} (hn : 1 ≤ n)
  (h : Ev G n env m H iter (FoQ G n env target body m (Thn G n env rest Q)))
  (hs : autoParam (∀ x, foldedSetIterable iter env x = pure x) aI) : Ex G n env m H (.For target iter body [] pos :: rest) Q := Ex.cons fun s hL B A T O S => by
 refine wpAny_For (wpAny_mono (h s hL B A T O S) ?_ fun _ _ z => z) hs
 rintro v s1 ⟨d, _, i, S1, st1, H1, rfl, hL1, tgt, H₀, ds, ok, it, ht, hL0, lp⟩
 refine wpAny_mono ((it s1 v i).frame hL1 B A T O S1) ?_ fun _ _ z => z
 rintro _ s2 ⟨Sr, _, rfl, S2, st2, _, rfl, hL2, rfl, rfl, rfl, hf, rfl⟩
 obtain ⟨hf', hc, _⟩ := Sr.comm (k := 0) (x := .ns m) hf hf hL2
 refine codeAny_mono (loop_run Sr ht T O hn hL0 hf' (k := 0) (by rw [hc]; exact S2) (st1.trans st2) (Nat.zero_le _) lp) ?_
 rintro r s3 ⟨f, rfl, fl, H', i', S', st', q⟩
 exact ⟨fl, H', i', S', st', q⟩
end
end
section
set_option tactic.hygienic false
noncomputable def isNm : Expr → Bool
 | .Name _ _ => true
 | _ => false
noncomputable def isTp : Expr → Bool
 | .Tuple _ _ _ => true
 | _ => false
noncomputable def litX (l : Addr) (k : Nat) : X := .raw (fun _ o => o.cls = .type "list_iterator" ∧ o.data = .fields #[.ref l, .int k 0]) fun _ _ _ _ h => h
noncomputable def ritX (x left : Int) : X := .raw (fun _ o => o = { cls := .type "range_iterator", dict := none, data := .fields #[rawInt x, rawInt left, rawInt 1], slots := #[] }) fun _ _ _ _ h => h
noncomputable def titX (ds : List D) (k : Nat) : X := .raw (fun h o => ∃ t vs, IsTup h t (List.toArray vs) ∧ IsL h vs ds ∧ o.cls = .type "tuple_iterator" ∧ o.data = .fields #[.ref t, .int k 0]) fun _ _ _ kp ⟨t, vs, a, b, c⟩ => ⟨t, vs, kp.tup a, b.mono kp, c⟩
noncomputable def enuX (it : Addr) (k : Nat) : X := .raw (fun _ o => ∃ old, o = { cls := .type "enumerate", dict := none, data := .fields #[.none, .bool false, .ref it, rawInt k, .none, old], slots := #[] }) fun _ _ _ _ h => h
section
variable {G : Gd} {B : Heap} {H : Hp} {h : Heap} {s : Shared} {A : Around}
theorem raw_at {a : Addr} {P hP} (S : Sat G B H h) (e : H a = some (.raw P hP)) : ∃ o, h.get? a = some o ∧ imm o = false ∧ P h o := (S.own _ _ e).2
noncomputable def Src.one (it : Addr) (tgt : Expr → Bool) (items : List D) (E : Nat → X) (ok : Hp → Prop) (okSet : ∀ {H : Hp} {a : Addr} {x : X}, H a = none → ok H → ok (H.set a x))
  (head : ∀ {target : Expr} {k : Nat} {d : D} {H : Hp} {B : Heap} {A : Around} {s : Shared}, tgt target = true → items[k]? = some d → H it = none → ok H → TopOk G B → Ok A 1 → Sat G B (H.set it (E k)) s.heap →
   wpAny (model G.prog G.w) A (pyNext (.ref it)) (fun r s₁ => ∃ v, r = some v ∧ wpAny (model G.prog G.w) A (letOwnedTupleGo target (.ref it) v) (fun _ s₂ => Is s₂.heap v d ∧ Sat G B (H.set it (E (k + 1))) s₂.heap ∧ Step s s₂) (fun _ _ => False) s₁) (fun _ _ => False) s)
  (done : ∀ {k : Nat} {H : Hp} {B : Heap} {A : Around} {s : Shared}, k = items.length → H it = none → ok H → TopOk G B → Ok A 1 → Sat G B (H.set it (E k)) s.heap →
   wpAny (model G.prog G.w) A (pyNext (.ref it)) (fun r s₁ => r = none ∧ Sat G B H s₁.heap ∧ Step s s₁) (fun _ _ => False) s)
  (self : ∀ {k : Nat} {H : Hp} {B : Heap} {A : Around} {s : Shared}, Sat G B (H.set it (E k)) s.heap → wpAny (model G.prog G.w) A (pyIter (.ref it)) (fun v s' => v = .ref it ∧ s' = s) (fun _ _ => False) s) : Src G where
 it := it
 tgt := tgt
 items := items
 put := fun k H => H.set it (E k)
 fresh := fun H => H it = none
 ok := ok
 frame := fun h hf => (h.frame hf).mono fun _ _ ⟨H'', a, b, c⟩ => ⟨H'', a, b, c⟩
 comm := fun {k k' H H' a x} hf hf' hp => by
  have ne : a ≠ it := fun z => by subst z; rw [Hp.set_self] at hp; cases hp
  exact ⟨by rw [Hp.set_ne _ _ (Ne.symm ne)]; exact hf, Hp.set_comm _ _ _ ne, Hp.set_ne _ _ ne⟩
 self := fun _ => self
 sub := fun {k H a x} hf ha => by
  have ne : a ≠ it := fun z => by subst z; rw [show H a = none from hf] at ha; cases ha
  rw [Hp.set_ne _ _ ne]; exact ha
 okSet := okSet
 head := head
 done := done
theorem isTp_of {t : Expr} (h : isTgt t = true) (hn : isNm t = false) : ∃ e k p, t = .Tuple e k p := by
 cases t <;> first | exact ⟨_, _, _, rfl⟩ | (cases h; done) | (cases hn; done)
theorem isTp_is {t : Expr} (h : isTp t = true) : ∃ e k p, t = .Tuple e k p := by
 cases t <;> first | exact ⟨_, _, _, rfl⟩ | (cases h; done)
theorem letGo_name {target : Expr} {it : Value} {v : Value} (h : isNm target = true) : letOwnedTupleGo target it v = pure () := by
 cases target <;> first | (cases h; done) | rfl
theorem Sat.drop {a : Addr} {x : X} (S : Sat G B (H.set a x) h) (ha : H a = none) : Sat G B H h := S.forget fun b y e => by
 have ne : b ≠ a := fun z => by subst z; rw [ha] at e; cases e
 rw [Hp.set_ne _ _ ne]; exact e
theorem Sat.dropBut {a : Addr} {x : X} {h' : Heap} (S : Sat G B (H.set a x) h) (ha : H a = none) (he : Heap.ExtBut a h h') : Sat G B H h' ∧ TupKeep h h' := by
 have hb := (S.own a x (Hp.set_self ..)).1
 obtain ⟨o, h1, h2⟩ := (S.own a x (Hp.set_self ..)).2.root
 have k : TupKeep h h' := fun b o' e q => by
  by_cases z : b = a
  ·subst z; rw [h1] at e; cases e; rw [h2] at q; cases q
  ·exact he b o' z e
 refine ⟨⟨fun b o' e => he b o' (fun z => by subst z; rw [hb] at e; cases e) (S.keep b o' e), fun b y e => ?_, S.low, fun b y e => S.off b y (by
  have ne : b ≠ a := fun z => by subst z; rw [ha] at e; cases e
  rw [Hp.set_ne _ _ ne]; exact e)⟩, k⟩
 have ne : b ≠ a := fun z => by subst z; rw [ha] at e; cases e
 have z := S.own b y (by rw [Hp.set_ne _ _ ne]; exact e)
 exact ⟨z.1, z.2.move k fun o e => he b o ne e⟩
noncomputable def rngL (lo hi : Int) : List D := (List.range (hi - lo).toNat).map fun k => .int (lo + (k : Nat))
theorem rngL_len (lo hi : Int) : (rngL lo hi).length = (hi - lo).toNat := by simp [rngL]
theorem rngL_get (lo hi : Int) {k : Nat} (h : k < (hi - lo).toNat) : (rngL lo hi)[k]? = some (.int (lo + (k : Nat))) := by simp [rngL, h]
noncomputable def srcR (it : Addr) (lo hi : Int) : Src G :=
 Src.one it isNm (rngL lo hi) (fun k => ritX (lo + (k : Nat)) ((hi - lo).toNat - (k : Nat))) (fun _ => True) (fun _ _ => trivial)
  (by
   intro target k d H B A s ht hi' hf _ T O S
   have hk : k < (hi - lo).toNat := by have := (List.getElem?_eq_some_iff.mp hi').1; rwa [rngL_len] at this
   rw [rngL_get lo hi hk] at hi'; cases hi'
   obtain ⟨o, h1, _, h2⟩ := raw_at S (Hp.set_self ..)
   subst h2
   refine wpAny_pyNext_range_item h1 (by one_sign) fun h' hr hs => ⟨_, rfl, ?_⟩
   rw [letGo_name ht]
   have kp := S.tupBut (Hp.set_self ..) hs
   refine wpAny_pure ⟨.int _ _, ?_, .mk' kp⟩
   have z := S.upd (x' := ritX (lo + ((k + 1 : Nat) : Int)) ((hi - lo).toNat - ((k + 1 : Nat) : Int))) (Hp.set_self ..) hs ⟨_, hr, rfl, by
    rw [show lo + ((k + 1 : Nat) : Int) = lo + (k : Int) + 1 by one_sign, show ((hi - lo).toNat : Int) - ((k + 1 : Nat) : Int) = (hi - lo).toNat - (k : Int) - 1 by one_sign]⟩
   rwa [Hp.set_set] at z)
  (by
   intro k H B A s hk hf _ T O S
   rw [rngL_len] at hk
   obtain ⟨o, h1, _, h2⟩ := raw_at S (Hp.set_self ..)
   subst h2
   refine wpAny_pyNext_range_end O.handled h1 (by one_sign) fun h' he => ?_
   obtain ⟨S', kp⟩ := S.dropBut hf he
   exact ⟨rfl, S', .hp kp⟩)
  (by
   intro k H B A s S
   obtain ⟨o, h1, _, h2⟩ := raw_at S (Hp.set_self ..)
   subst h2
   exact wpAny_pyIter_rangeiter h1 ⟨rfl, rfl⟩)
theorem size_one {lo hi : Int} : Builtin.Range.rangeSize lo hi 1 = ((hi - lo).toNat : Int) := by
 rw [rangeSize_one]; split <;> one_sign
theorem Itr.rng {n : Nat} {lo hi : Int} (h1 : -(2 ^ 62) ≤ lo := by one_sign) (h2 : lo < 2 ^ 62 := by one_sign) (h3 : -(2 ^ 62) ≤ hi := by one_sign) (h4 : hi < 2 ^ 62 := by one_sign) : Itr G n H (.rng lo hi) isNm H (rngL lo hi) fun _ => True := by
 intro s v i B A T O S
 replace i := i.inv; obtain ⟨_, _, _, _, rfl, r⟩ := i
 refine wpAny_pyIter_range r (small_one h1 h2 h3 h4) ?_
 have kp := push_keeps s.heap { cls := .type "range_iterator", data := .fields #[rawInt lo, rawInt (Builtin.Range.rangeSize lo hi 1), rawInt 1] }
 have hf := S.fresh (Nat.le_refl _)
 refine ⟨srcR s.heap.objs.size lo hi, _, rfl, ?_, .hp (.keeps kp), rfl, rfl, rfl, hf, rfl⟩
 ·refine S.new kp (Nat.le_refl _) ⟨_, Heap.get?_push_size _ rfl, rfl, ?_⟩
  rw [size_one]
  show ({ cls := _, dict := _, data := .fields #[rawInt lo, rawInt _, rawInt 1], slots := _ } : Obj) = { cls := _, dict := _, data := .fields #[rawInt (lo + ((0 : Nat) : Int)), rawInt _, rawInt 1], slots := _ }
  rw [show lo + ((0 : Nat) : Int) = lo by one_sign, show ((hi - lo).toNat : Int) - ((0 : Nat) : Int) = (hi - lo).toNat by one_sign]
noncomputable def srcL (it l : Addr) (ds : List D) : Src G :=
 Src.one it isTgt ds (fun k => litX l k) (fun H => H l = some (.lst ds)) (fun {H a x} ha h => by
   have ne : l ≠ a := fun z => by subst z; rw [ha] at h; cases h
   rw [Hp.set_ne _ _ ne]; exact h)
  (by
   intro target k d H B A s ht hi hf hl T O S
   have ne : l ≠ it := fun z => by subst z; rw [hf] at hl; cases hl
   obtain ⟨o, h1, _, h2, h3⟩ := raw_at S (Hp.set_self ..)
   obtain ⟨_, vs, t, i⟩ := S.own l _ ((Hp.set_ne _ _ ne).trans hl)
   obtain ⟨v, hv, iv⟩ := i.get hi
   refine wpAny_pyNext_list_item (i := k) ⟨o, h1, h2, h3⟩ t.isList (by simpa using hv) fun h' hr hs => ⟨_, rfl, ?_⟩
   have kp := S.tupBut (Hp.set_self ..) hs
   have z := S.upd (x' := litX l (k + 1)) (Hp.set_self ..) hs (by
    obtain ⟨o', a, b, c⟩ := hr
    exact ⟨o', a, by unfold imm; rw [c, b]; exact (by decide : (Value.type "list_iterator" == Value.type "range") = false), b, c⟩)
   rw [Hp.set_set] at z
   have fin : Is h' v d ∧ Sat G B (H.set it (litX l (k + 1))) h' ∧ Step s { s with heap := h' } := ⟨iv.mono kp, z, .hp kp⟩
   cases hn : isNm target with
   | true => rw [letGo_name hn]; exact wpAny_pure fin
   | false =>
    obtain ⟨elts, kk, pos, rfl⟩ := isTp_of ht hn
    cases iv with
    | ref => exact wpAny_letOwnedTupleGo_listiter hr fin
    | tup => exact wpAny_letOwnedTupleGo_listiter hr fin
    | rng => exact wpAny_letOwnedTupleGo_listiter hr fin
    | _ => exact wpAny_pure fin)
  (by
   intro k H B A s hk hf hl T O S
   have ne : l ≠ it := fun z => by subst z; rw [hf] at hl; cases hl
   obtain ⟨o, h1, _, h2, h3⟩ := raw_at S (Hp.set_self ..)
   obtain ⟨_, vs, t, i⟩ := S.own l _ ((Hp.set_ne _ _ ne).trans hl)
   refine wpAny_pyNext_list_end O.handled (i := k) ⟨o, h1, h2, h3⟩ t.isList (by
    have := i.length
    simp; one_sign) fun h' he => ?_
   obtain ⟨S', kp⟩ := S.dropBut hf he
   exact ⟨rfl, S', .hp kp⟩)
  (by
   intro k H B A s S
   obtain ⟨o, h1, _, h2, h3⟩ := raw_at S (Hp.set_self ..)
   exact wpAny_pyIter_listiter (i := k) ⟨o, h1, h2, h3⟩ ⟨rfl, rfl⟩)
theorem Itr.lst {n : Nat} {l : Addr} {ds : List D} (hl : H l = some (.lst ds)) : Itr G n H (.ref l) isTgt H ds fun H => H l = some (.lst ds) := by
 intro s v i B A T O S
 (first | (replace i := i.inv; obtain rfl := i) | (replace i := i.inv; obtain ⟨_, rfl⟩ := i) | cases i)
 obtain ⟨_, vs, t, i⟩ := S.own l _ hl
 refine wpAny_pyIter_list t.isList ?_
 have kp := push_keeps s.heap { cls := .type "list_iterator", data := .fields #[.ref l, .int 0 0] }
 have hf := S.fresh (Nat.le_refl _)
 refine ⟨srcL s.heap.objs.size l ds, _, rfl, ?_, .hp (.keeps kp), rfl, rfl, rfl, hf, rfl⟩
 ·exact S.new (x := litX l 0) kp (Nat.le_refl _) ⟨_, Heap.get?_push_size _ rfl, rfl, rfl, rfl⟩
end
end
section
set_option tactic.hygienic false
noncomputable def sput (x : Str) (d : D) : List (D × D) → List (D × D)
 | [] => [(.str x, d)]
 | (.str y, e) :: r => if y = x then (.str y, d) :: r else (.str y, e) :: sput x d r
 | p :: r => p :: sput x d r
theorem Ent.putL {P : Params} {h : Heap} {x : Str} {t : Tok} {v : Value} {d : D} (i : Is h v d) : ∀ {es : List DictEntry} {l : List (D × D)}, Ent P h es l → Ent P h (putL x (PyData.keyHash P x) (.str x t) v es) (sput x d l)
 | _, _, .nil => .str rfl rfl i .nil
 | _, _, .str (e := e) (s := y) a b c r => by
  unfold PySem.W.putL sput
  by_cases q : y = x
  ·have z : e.key.isStr x = true := by rw [a]; simp [Value.isStr, q]
   rw [if_pos q, z]; exact .str a b i r
  ·have z : e.key.isStr x = false := by rw [a]; simp [Value.isStr, q]
   rw [if_neg q, z]; exact .str a b c (r.putL i)
 | _, _, .int (e := e) (i := y) a b c r => by
  unfold PySem.W.putL sput
  have z : e.key.isStr x = false := by rw [a]; rfl
  rw [z]; exact .int a b c (r.putL i)
theorem Ent.length {P : Params} {h : Heap} : ∀ {es : List DictEntry} {l : List (D × D)}, Ent P h es l → es.length = l.length
 | _, _, .nil => rfl
 | _, _, .str _ _ _ r => by simp [r.length]
 | _, _, .int _ _ _ r => by simp [r.length]
theorem putL_len (x : Str) (hsh : Int) (k v : Value) : ∀ es : List DictEntry, (PySem.W.putL x hsh k v es).length ≤ es.length + 1
 | [] => by simp [PySem.W.putL]
 | e :: r => by
  have := putL_len x hsh k v r
  unfold PySem.W.putL
  split <;> simp only [List.length_cons] <;> one_sign
section
variable {G : Gd} {n : Nat} {env : Env} {m : Loc} {H : Hp} {Q : D → Hp → Prop}
theorem SetA.own {x C dx l name d} {QH : Hp → Prop} (h1 : H x = some (.ins C dx)) (h2 : H dx = some (.dct l)) (hs : findIn G.K (.ref C) "__setattr__" = some (some (.builtin "object.__setattr__"))) (hp : plainOver G.K C = true) (ht : takerIn G.K C name = some none) (hh : hasDictIn G.K C = true)
  (q : QH (H.set dx (.dct (sput name d l)))) (hz : autoParam (l.length ≤ 900) aD) : SetA G n H (.ref x) name d QH := fun s v1 v2 i j B A T O S => by
 (first | (replace i := i.inv; obtain rfl := i) | (replace i := i.inv; obtain ⟨_, rfl⟩ := i) | cases i)
 obtain ⟨es, k, I, en⟩ := inst_at S h1 h2
 have X := T.k.keeps S.keep
 refine set_plain X I hs (osa_open (s := { s with toks := s.toks + 1 }) X I hp ht fun b => ?_)
 obtain ⟨cd, hc, hd'⟩ := any_some hh
 obtain ⟨hx, -, -, hdx⟩ := I
 let f := Obj.putName name (PyData.keyHash G.w.params name) (.str name (s.toks + 1)) v2
 have D1 : s.heap.get? dx = some (dictOf es k) := hdx
 have hf : f (dictOf es k) = dictOf (PySem.W.putL name (PyData.keyHash G.w.params name) (.str name (s.toks + 1)) v2 es) (putN name es k) := putName_dict _ _ _ _ _ _
 have D2 : (s.heap.update dx f).get? dx = some (f (dictOf es k)) := Heap.get?_update_self f D1 (by rw [hf]; rfl)
 refine wpAny_bind (wpAny_pure (wpAny_bind (wpAny_bind (wpAny_loadPart hx (wpAny_bind ((looks_clsIn (h := s.heap) X hc).here (s := { s with toks := s.toks + 1 }) ?_))))))
 rw [hd']
 refine wpAny_pure (a := some dx) (wpAny_bind (wpAny_pure (wpAny_bind ?_)))
 unfold nsSet
 refine wpAny_bind (wpAny_bind (wpAny_askSetting (wpAny_pure (wpAny_bind (wpAny_mkText (wpAny_bind (wpAny_loadPart D1 ?_)))))))
 dsimp only
 have c : (!es.toArray.any (·.key.isStr name) && es.toArray.any (·.refKey)) = false := by
  rw [← Array.any_toList, ← Array.any_toList]
  show (_ && es.any (·.refKey)) = false
  rw [en.noRef, Bool.and_false]
 rw [aRefKeyMayBeTheName_at, c]
 refine wpAny_updatePart D1 ?_
 refine wpAny_bind (wpAny_lookBehind D2 (by
  rw [hf]
  exact pastItsLine_dict (by
   have e1 := putL_len name (PyData.keyHash G.w.params name) (.str name (s.toks + 1)) v2 es
   have e2 := en.length
   rw [List.size_toArray, sizeLine_eq]; one_sign)) ?_)
 have hsb : Heap.SameBut dx s.heap (s.heap.update dx f) := Heap.SameBut.update ..
 have kp := S.tupBut h2 hsb
 refine wpAny_pure ⟨(), _, rfl, S.upd (x' := .dct (sput name d l)) h2 hsb ⟨_, _, _, D2, by rw [hf]; exact ⟨rfl, rfl, rfl⟩, by rw [hf], (en.mono kp).putL (j.mono kp)⟩, .mk' kp, q⟩
noncomputable def CalC (G : Gd) (n : Nat) (H : Hp) (f : Value) (ds : List D) (Q : D → Hp → Prop) : Prop := ∀ s vs, IsL s.heap vs ds → ∀ B A, TopOk G B → Ok A n → Sat G B H s.heap →
 codeAny (model G.prog G.w) A (.call f ⟨vs, []⟩) (fun r s' => ∃ v d H', r = .ok (.ret v) ∧ Is s'.heap v d ∧ Sat G B H' s'.heap ∧ Step s s' ∧ Q d H') s
theorem CalC.cal {f ds} (h : CalC G n H f ds Q) : Cal G n H f ds Q := fun s vs i B A T O S =>
 wpAny_call (codeAny_mono (h s vs i B A T O S) fun r s' ⟨v, d, H', e, a, b, c, q⟩ => by subst e; exact ⟨d, H', a, b, c, q⟩)
theorem CalC.fn {f : Addr} {name qual : Str} {params : Arguments} {body : List Stmt} {scope : Scope} {dV kV doc pm cdv ct oc : Value} {an od : Option Addr} {osl : Array (Option Value)} {ds es : List D} (ks : List Str)
  (ho : G.K.lookup f = some ⟨oc, od, .func (fnOf name qual params body scope dV kV doc pm an cdv ct), osl⟩) (hcd : codeIn G.K cdv qual = true)
  (hbind : ∀ B, TopOk G B → ∀ s vs, (∀ b o, B.get? b = some o → s.heap.get? b = some o) → IsL s.heap vs ds → ∃ ws, BindsTo s (fnOf name qual params body scope dV kV doc pm an cdv ct) ⟨vs, []⟩ (ks.zip ws) ∧ IsL s.heap ws es)
  (h : ∀ L, H L = none → Ex G n (envX qual scope L f cdv []) (locOf ks es) H body fun fl _ H' => Q (retOf fl) H')
  (hcell : autoParam (∀ x ∈ scope.names, x.2 ≠ .cell) aD) (hloc : autoParam (∀ k ∈ ks, scope.names.lookup k = some .local) aD)
  (hco : autoParam (scope.isCoroutine = false) aR) (hgen : autoParam (scope.isGenerator = false) aR) (hk : autoParam (scope.kind = .function) aR) : CalC G (n + 1) H (.ref f) ds Q := by
 intro s vs i B A T O S
 obtain ⟨ws, hb, j⟩ := hbind B T s vs S.keep i
 have hroom : A.depth < recursionLimit := by have := O.depth; one_sign
 refine codeAny_call_def (fd := fnOf name qual params body scope dV kV doc pm an cdv ct) (body := body) hroom (T.k.keeps S.keep _ _ ho) rfl (T.t.nolimit.keeps S.keep) (codeRec_of (T.k.keeps S.keep) hcd) rfl hb hcell
  (fun x hx => hloc x.1 (List.of_mem_zip hx).1) (fun h₁ hns hk₁ => ?_) hco hgen hk
 have hL := S.fresh (Nat.le_refl _)
 have S1 : Sat G B (H.set s.heap.objs.size (.ns (locOf ks es))) h₁ := S.new hk₁ (Nat.le_refl _) ⟨_, hns, fun x d e => let ⟨v, a, b⟩ := locOf_rep j e; ⟨v, a, b.mono (.keeps hk₁)⟩⟩
 refine wpAny_mono (h s.heap.objs.size hL _ hL B _ T (O.deeper _) S1) ?_ fun _ _ z => z.elim
 rintro f' s' ⟨fl, _, i', S', st', m', H', rfl, hL', q⟩
 have fin : ∀ {v d}, Is s'.heap v d → Q d H' → ∃ v' d H', (Except.ok (Flow.ret v) : Result) = .ok (.ret v') ∧ Is s'.heap v' d ∧ Sat G B H' s'.heap ∧ Step s s' ∧ Q d H' := fun {v d} a b =>
  ⟨v, d, H', rfl, a, S'.drop hL', Step.trans (.mk' (.keeps hk₁)) st', b⟩
 cases i' with
 | next => exact fin .none q
 | brk => exact fin .none q
 | cont => exact fin .none q
 | ret a => exact fin a q
theorem Ok.make {A : Around} {c : Addr} {vs : List Value} (O : Ok A (n + 1)) : Ok (A.under (.builtin "type.__call__" ⟨.ref c :: vs, []⟩)) n := by
 have hw : (Code.builtin "type.__call__" ⟨.ref c :: vs, []⟩).weight ≤ 1 := by
  unfold Code.weight
  have e1 : (Code.builtin "type.__call__" ⟨.ref c :: vs, []⟩).frames = 0 := by rfl
  have e2 : (Code.builtin "type.__call__" ⟨.ref c :: vs, []⟩).isGuard = false := (by decide +kernel : guardIds.contains "type.__call__" = false)
  have e3 : (Code.builtin "type.__call__" ⟨.ref c :: vs, []⟩).isCaller = false := by rfl
  rw [e1, e2, e3]; split <;> simp
 have hu : (Code.builtin "type.__call__" ⟨.ref c :: vs, []⟩).cUnits ≤ 10 := by
  first | exact (by decide : (1 : Nat) ≤ 10) | (unfold Code.cUnits; split <;> one_sign)
 refine ⟨O.handled, ?_, ?_⟩
 ·show A.depth + (Code.builtin "type.__call__" ⟨.ref c :: vs, []⟩).weight + n < _
  have := O.depth; one_sign
 ·show A.units + (Code.builtin "type.__call__" ⟨.ref c :: vs, []⟩).cUnits + 20 * n < _
  have := O.units; one_sign
theorem CalC.cls {C fI : Addr} {ds : List D} (hm : makesIn G.K C = true) (hi : findIn G.K (.ref C) "__init__" = some (some (.ref fI))) (hf : isFn G.K (.ref fI) = true)
  (h : ∀ x dx, H x = none → H dx = none → x ≠ dx → CalC G n ((H.set dx (.dct [])).set x (.ins C dx)) (.ref fI) (.ref x :: ds) fun d H' => d = .none ∧ Q (.ref x) H') : CalC G (n + 1) H (.ref C) ds Q := by
 intro s vs i B A T O S
 have X := T.k.keeps S.keep
 obtain ⟨hh, g, d, t, os⟩ := s
 refine make_core (makes_of X hm) (looks_findIn X hi) (fun self => bind_fn X self (beq_iff_eq.mp hf)) (.inl rfl) ?_
 have k1 := push_keeps hh emptyDict
 have S1 := S.new (x := .dct []) k1 (Nat.le_refl _) ⟨_, [], 0, Heap.get?_push_size _ rfl, ⟨rfl, rfl, rfl⟩, rfl, .nil⟩
 have k2 := push_keeps (hh.push emptyDict) (instObj C hh.objs.size)
 have S2 := S1.new (a := hh.objs.size + 1) (x := .ins C hh.objs.size) k2 (by rw [Heap.size_push]; exact Nat.le_refl _) (by
  have := Heap.get?_push_size (hh.push emptyDict) (o := instObj C hh.objs.size) rfl
  rw [Heap.size_push] at this; exact this)
 have kp : TupKeep hh ((hh.push emptyDict).push (instObj C hh.objs.size)) := .trans (.keeps k1) (.keeps k2)
 have f1 : H hh.objs.size = none := S.fresh (Nat.le_refl _)
 have f2 : H (hh.objs.size + 1) = none := S.fresh (Nat.le_succ _)
 refine codeAny_mono (h (hh.objs.size + 1) hh.objs.size f2 f1 (Nat.succ_ne_self _) ⟨_, g, d, t, os⟩ (.ref (hh.objs.size + 1) :: vs) (.cons (.ref _) (i.mono kp)) B _ T O.make S2) ?_
 rintro r s' ⟨v, d', H', rfl, iv, S', st', rfl, q⟩
 cases iv
 exact ⟨rfl, _, _, _, rfl, .ref _, S', Step.trans (.hp kp) st', q⟩
theorem Cal.rng1 {hi} (q : Q (.rng 0 hi) H) : Cal G n H (.type "range") [.int hi] Q := fun s vs i B A T O S => by
 replace i := i.inv; obtain ⟨_, _, rfl, i, j⟩ := i
 replace i := i.inv; obtain ⟨tk, rfl⟩ := i
 (first | (replace j := j.inv; obtain rfl := j) | (replace j := j.inv; obtain ⟨_, rfl⟩ := j) | cases j)
 have kp := push_keeps s.heap { cls := .type "range", data := .fields #[.int 0 s.toks, .int hi tk, .int 1 (s.toks + 1)] }
 exact call_range_1 ⟨_, H, .rng (IsRange.new ..), S.keeps kp, .mk' (.keeps kp), q⟩
theorem Cal.rng2 {lo hi} (q : Q (.rng lo hi) H) : Cal G n H (.type "range") [.int lo, .int hi] Q := fun s vs i B A T O S => by
 replace i := i.inv; obtain ⟨_, _, rfl, i, j⟩ := i
 replace j := j.inv; obtain ⟨_, _, rfl, j, k⟩ := j
 replace i := i.inv; obtain ⟨tk, rfl⟩ := i
 replace j := j.inv; obtain ⟨tj, rfl⟩ := j
 (first | (replace k := k.inv; obtain rfl := k) | (replace k := k.inv; obtain ⟨_, rfl⟩ := k) | cases k)
 have kp := push_keeps s.heap { cls := .type "range", data := .fields #[.int lo tk, .int hi tj, .int 1 s.toks] }
 exact call_range_2 ⟨_, H, .rng (IsRange.new ..), S.keeps kp, .mk' (.keeps kp), q⟩
theorem Ev.methB {o name apos e rest pos T id} {pl : Sem Bool} (pa : PlainAttrs T) (slot : Slot T name id) (hty : typeOf (.builtin id) = pure (.type "method_descriptor"))
  (h : Ev G n env m H o fun d H1 => ∃ a, d = .ref a ∧ (∀ B h, TopOk G B → Sat G B (H1.set env.locals (.ns m)) h → ∃ ob, h.get? a = some ob ∧ ob.cls = .type T ∧ ob.dict = none) ∧ EvL G n env m H1 pos (e :: rest) fun ds H2 => Cal G n H2 (.builtin id) (.ref a :: ds) Q)
  (he : autoParam (eval (.Call (.Attribute o name apos) (e :: rest) [] pos) env = (do
   let ov ← eval o env
   standAt apos.atName
   let (f, first) ← holding [ov] (getMethod ov name pl)
   callWith pos f first (backTo pos (starEach (e :: rest) env)) [])) aR)
  (hs : autoParam (starEach (e :: rest) env = (false, eval e env) :: starEach rest env) aR) (hp : autoParam ((backTo pos (starEach rest env)).any (·.1) = false) aR) :
  Ev G n env m H (.Call (.Attribute o name apos) (e :: rest) [] pos) Q := by
 intro s hL B A T O S
 refine MethodCall_ (pl := pl) (wpAny_mono (h s hL B A T O S) ?_ fun _ _ z => z) he
 rintro v1 s1 ⟨_, _, i1, S1, st1, H1, rfl, hL1, a, rfl, ha, h1⟩
 (first | (replace i1 := i1.inv; obtain rfl := i1) | (replace i1 := i1.inv; obtain ⟨_, rfl⟩ := i1) | cases i1)
 obtain ⟨ob, g1, g2, g3⟩ := ha B _ T S1
 refine getMethod_builtin ⟨ob, g1, g2⟩ pa slot hty (fun b e => by cases e; exact ⟨ob, g1, g3⟩) ?_
 refine callWith_method1 (wpAny_mono (h1 s1 hL1 B A T O S1) ?_ fun _ _ z => z) hs hp
 rintro vs s2 ⟨ds, _, i2, S2, st2, H2, rfl, hL2, h2⟩
 refine wpAny_mono ((h2 s2 (.ref a :: vs) (.cons (.ref a) i2)).frame hL2 B A T O S2) ?_ fun _ _ z => z
 rintro v3 s3 ⟨d3, H3, i3, S3, st3, q⟩
 exact ⟨d3, H3, i3, S3, (st1.trans st2).trans st3, q⟩
theorem list_there {L : Addr} {a : Addr} {l : List D} (hL : H L = none) (ha : H a = some (.lst l)) : ∀ B h, TopOk G B → Sat G B (H.set L (.ns m)) h → ∃ ob, h.get? a = some ob ∧ ob.cls = .type "list" ∧ ob.dict = none := fun B h _ S => by
 have ne : a ≠ L := fun z => by subst z; rw [hL] at ha; cases ha
 obtain ⟨_, vs, ⟨k, e⟩, _⟩ := S.own a _ ((Hp.set_ne _ _ ne).trans ha)
 exact ⟨_, e, rfl, rfl⟩
theorem dict_there {L : Addr} {a : Addr} {l : List (D × D)} (hL : H L = none) (ha : H a = some (.dct l)) : ∀ B h, TopOk G B → Sat G B (H.set L (.ns m)) h → ∃ ob, h.get? a = some ob ∧ ob.cls = .type "dict" ∧ ob.dict = none := fun B h _ S => by
 have ne : a ≠ L := fun z => by subst z; rw [hL] at ha; cases ha
 obtain ⟨_, o, es, k, e, e2, _, _⟩ := S.own a _ ((Hp.set_ne _ _ ne).trans ha)
 exact ⟨_, e, e2.1, e2.2.1⟩
theorem Cal.append {a l d} (ha : H a = some (.lst l)) (q : Q .none (H.set a (.lst (l ++ [d])))) (hs : autoParam (l.length ≤ sizeLine) aD) : Cal G n H (.builtin "list.append") [.ref a, d] Q := fun s vs i B A T O S => by
 replace i := i.inv; obtain ⟨_, _, rfl, i, j⟩ := i
 replace j := j.inv; obtain ⟨_, _, rfl, j, k⟩ := j
 (first | (replace i := i.inv; obtain rfl := i) | (replace i := i.inv; obtain ⟨_, rfl⟩ := i) | cases i); (first | (replace k := k.inv; obtain rfl := k) | (replace k := k.inv; obtain ⟨_, rfl⟩ := k) | cases k)
 obtain ⟨_, vs, t, i⟩ := S.own a _ ha
 refine wpAny_list_append_plain t (fun h' hl hsb => ?_) (by rw [List.size_toArray, i.length]; exact hs)
 have kp := S.tupBut ha hsb
 exact ⟨_, _, .none, S.upd (x' := .lst (l ++ [d])) ha hsb ⟨vs ++ [_], by rw [List.push_toArray] at hl; exact hl, (i.mono kp).append (.cons (j.mono kp) .nil)⟩, .hp kp, q⟩
end
end
section
set_option tactic.hygienic false
noncomputable abbrev Ky := Str ⊕ Int
noncomputable def kis : Ky → Value → Bool
 | .inl x, v => Value.isStrOf x v
 | .inr i, v => Value.isInt i v
noncomputable def kd : Ky → D
 | .inl x => .str x
 | .inr i => .int i
theorem kis_is {h : Heap} {k : Ky} {v : Value} (e : kis k v = true) : Is h v (kd k) := by
 cases k with
 | inl x => obtain ⟨t, rfl⟩ := Value.isStrOf_shape e; exact .str _ _
 | inr i => obtain ⟨t, rfl⟩ := Value.isInt_shape e; exact .int _ _
theorem is_kis {h : Heap} {k : Ky} {v : Value} (i : Is h v (kd k)) : kis k v = true := by
 cases k with
 | inl x => (first | (replace i := i.inv; obtain rfl := i) | (replace i := i.inv; obtain ⟨_, rfl⟩ := i) | cases i); simp [kis, Value.isStrOf]
 | inr x => (first | (replace i := i.inv; obtain rfl := i) | (replace i := i.inv; obtain ⟨_, rfl⟩ := i) | cases i); simp [kis, Value.isInt]
noncomputable def mxHash (w : World) : Ky → Int
 | .inl x => hashStr w x
 | .inr i => hashInt i
noncomputable def mx (prog : Program) (w : World) : KeyKind prog w Ky where
 is := kis
 hash := mxHash w
 inj := fun v a b ha hb => by
  cases a <;> cases b
  ·rw [Value.isStrOf_inj v _ _ ha hb]
  ·obtain ⟨t, rfl⟩ := Value.isStrOf_shape ha; cases hb
  ·obtain ⟨t, rfl⟩ := Value.isInt_shape ha; cases hb
  ·rw [Value.isInt_inj v _ _ ha hb]
 byValue := fun k v h => by
  cases k with
  | inl x => obtain ⟨t, rfl⟩ := Value.isStrOf_shape h; rfl
  | inr x => obtain ⟨t, rfl⟩ := Value.isInt_shape h; rfl
 pyHash := fun {A E s k v Q} hv h => by
  cases k with
  | inl x => obtain ⟨t, rfl⟩ := Value.isStrOf_shape hv; exact wpAny_pyHash_str h
  | inr x => obtain ⟨t, rfl⟩ := Value.isInt_shape hv; exact wpAny_pyHash_int h
 eqBool := fun {A E s a b u v Q} hu hv h => by
  cases a with
  | inl a =>
   obtain ⟨t, rfl⟩ := Value.isStrOf_shape hu
   cases b with
   | inl b => obtain ⟨t', rfl⟩ := Value.isStrOf_shape hv; exact wpAny_eqBool_str (by simpa using h)
   | inr b => obtain ⟨t', rfl⟩ := Value.isInt_shape hv; exact EqAt.sc (.str _ _) (.int _ _) rfl _ _ _ _ h
  | inr a =>
   obtain ⟨t, rfl⟩ := Value.isInt_shape hu
   cases b with
   | inl b => obtain ⟨t', rfl⟩ := Value.isStrOf_shape hv; exact EqAt.sc (.int _ _) (.str _ _) rfl _ _ _ _ h
   | inr b => obtain ⟨t', rfl⟩ := Value.isInt_shape hv; exact wpAny_eqBool_int ((show (a == b) = decide ((Sum.inr a : Ky) = Sum.inr b) by by_cases q : a = b <;> simp [q]) ▸ h)
 «strs» := fun k x t v h => by
  cases k with
  | inr i => cases h
  | inl y =>
   obtain ⟨u, hu⟩ := Value.isStrOf_shape (show Value.isStrOf y (.str x t) = true from h)
   injection hu with hx
   subst hx
   cases v <;> rfl
noncomputable def kt : Ky → D → Bool
 | .inl x, .str y => decide (y = x)
 | .inr i, .int j => decide (j = i)
 | _, _ => false
noncomputable def kget (k : Ky) : List (D × D) → Option D
 | [] => none
 | (e, d) :: r => if kt k e = true then some d else kget k r
noncomputable def kput (k : Ky) (d : D) : List (D × D) → List (D × D)
 | [] => [(kd k, d)]
 | (e, x) :: r => if kt k e = true then (e, d) :: r else (e, x) :: kput k d r
noncomputable def kOf : D → Option Ky
 | .str x => some (.inl x)
 | .int i => some (.inr i)
 | _ => none
theorem Ent.inv {P : Params} {h : Heap} {e : DictEntry} {es : List DictEntry} {p : D × D} {l : List (D × D)} (i : Ent P h (e :: es) (p :: l)) : Is h e.val p.2 ∧ (∃ k, p.1 = kd k ∧ kis k e.key = true) ∧ Ent P h es l := by
 cases i with
 | str a b c r => exact ⟨c, ⟨.inl _, rfl, by rw [a]; simp [kis, Value.isStrOf]⟩, r⟩
 | int a b c r => exact ⟨c, ⟨.inr _, rfl, by rw [a]; simp [kis, Value.isInt]⟩, r⟩
theorem kt_kd (k j : Ky) : kt k (kd j) = decide (j = k) := by
 cases k <;> cases j <;> simp [kt, kd]
theorem kis_dec {k j : Ky} {v : Value} (h : kis j v = true) : kis k v = decide (j = k) := by
 have prog : Program := default
 by_cases e : j = k
 ·subst e; simp [h]
 ·simp only [e, decide_false]
  cases q : kis k v with
  | false => rfl
  | true =>
   exfalso; apply e
   cases j <;> cases k
   ·rw [Value.isStrOf_inj v _ _ h q]
   ·obtain ⟨t, rfl⟩ := Value.isStrOf_shape h; cases q
   ·obtain ⟨t, rfl⟩ := Value.isInt_shape h; cases q
   ·rw [Value.isInt_inj v _ _ h q]
theorem Ent.keysOf {prog : Program} {w : World} {h : Heap} {es : List DictEntry} {l : List (D × D)} (z : Ent w.params h es l) : ∀ e ∈ es, ∃ k, kis k e.key = true ∧ e.hash = mxHash w k := by
 induction z with
 | nil => intro e q; cases q
 | @str _ x _ _ _ _ a b c r ih =>
  intro e q
  cases q with
  | head => exact ⟨.inl x, by rw [a]; simp [kis, Value.isStrOf], b⟩
  | tail _ q => exact ih e q
 | @int _ x _ _ _ _ a b c r ih =>
  intro e q
  cases q with
  | head => exact ⟨.inr x, by rw [a]; simp [kis, Value.isInt], b⟩
  | tail _ q => exact ih e q
theorem Ent.find {P : Params} {h : Heap} {k : Ky} : ∀ {es : List DictEntry} {l : List (D × D)}, Ent P h es l →
  match kget k l with
  | some d => ∃ e, es.find? (fun e => kis k e.key) = some e ∧ Is h e.val d
  | none => es.find? (fun e => kis k e.key) = none
 | [], [], _ => rfl
 | e :: es, (c, d) :: l, i => by
  obtain ⟨i1, ⟨j, e1, i2⟩, i3⟩ := i.inv
  simp only at e1 i1
  subst e1
  have ih := i3.find (k := k)
  unfold kget
  rw [kt_kd]
  by_cases q : j = k
  ·simp only [q, decide_true, if_true]
   exact ⟨e, by rw [List.find?_cons, kis_dec i2]; simp [q], i1⟩
  ·simp only [q, decide_false, Bool.false_eq_true, if_false]
   rw [List.find?_cons, kis_dec i2]
   simp only [q, decide_false]
   exact ih
noncomputable def DctAt (G : Gd) (H : Hp) (a : Addr) (l : List (D × D)) : Prop := ∀ B h, TopOk G B → Sat G B H h → (a == sysModules) = false ∧ ∃ (o : Obj) (es : List DictEntry) (n : Nat), h.get? a = some o ∧ o.ExactDict ∧ o.data = .dict es.toArray n ∧ Ent G.w.params h es l
noncomputable def LstAt (G : Gd) (H : Hp) (a : Addr) (l : List D) : Prop := ∀ B h, TopOk G B → Sat G B H h → ∃ vs : List Value, h.PlainList a vs.toArray ∧ IsL h vs l
section
variable {G : Gd} {n : Nat} {env : Env} {m : Loc} {H : Hp} {Q : D → Hp → Prop}
theorem LstAt.own {a l} (h : H a = some (.lst l)) : LstAt G H a l := fun B h' T S => (S.own _ _ h).2
theorem DctAt.own {a l} (h : H a = some (.dct l)) : DctAt G H a l := fun B h' T S => ⟨S.off _ _ h, (S.own _ _ h).2⟩
theorem Ent.mapOf {P : Program} {h : Heap} {a : Addr} {o : Obj} {es : List DictEntry} {k : Nat} {l : List (D × D)} (w : World) (h1 : h.get? a = some o) (h2 : o.ExactDict) (h3 : o.data = .dict es.toArray k) (i : Ent w.params h es l) :
  h.MapOf (mx P w) a (fun k => findBy kis es.toArray k) := ⟨o, es.toArray, k, h1, h2, h3, fun e he => i.keysOf (prog := P) e (by simpa using he), fun _ => rfl⟩
theorem Ent.findBy {P : Params} {h : Heap} {k : Ky} {es : List DictEntry} {l : List (D × D)} (i : Ent P h es l) :
  match kget k l with
  | some d => ∃ v, findBy kis es.toArray k = some v ∧ Is h v d
  | none => PySem.findBy kis es.toArray k = none := by
 have z := i.find (k := k)
 unfold PySem.findBy
 cases q : kget k l with
 | some d =>
  rw [q] at z
  obtain ⟨e, h1, h2⟩ := z
  exact ⟨e.val, by rw [List.find?_toArray, h1]; rfl, h2⟩
 | none =>
  rw [q] at z
  show Option.map _ _ = _
  rw [List.find?_toArray, z]; rfl
theorem Cmp.inD {a l k} (h : DctAt G H a l) (q : Q (.bool (kget k l).isSome) H) : Cmp G n H .In (kd k) (.ref a) Q := fun s v w i j B A T O S => by
 (first | (replace j := j.inv; obtain rfl := j) | (replace j := j.inv; obtain ⟨_, rfl⟩ := j) | cases j)
 obtain ⟨h0, o, es, c, h1, h2, h3, h4⟩ := h _ _ T S
 refine wpAny_in_of (knd := mx G.prog G.w) (is_kis i) h0 (h4.mapOf _ h1 h2 h3) ⟨_, _, ?_, S, .tok, q⟩
 have z := h4.findBy (k := k)
 dsimp only
 cases e : kget k l with
 | some d => rw [e] at z; obtain ⟨v, e1, e2⟩ := z; rw [e1]; exact .bool _
 | none => rw [e] at z; rw [z]; exact .bool _
theorem Cmp.ninD {a l k} (h : DctAt G H a l) (q : Q (.bool (!(kget k l).isSome)) H) : Cmp G n H .NotIn (kd k) (.ref a) Q := fun s v w i j B A T O S => by
 (first | (replace j := j.inv; obtain rfl := j) | (replace j := j.inv; obtain ⟨_, rfl⟩ := j) | cases j)
 obtain ⟨h0, o, es, c, h1, h2, h3, h4⟩ := h _ _ T S
 refine wpAny_notIn_of (knd := mx G.prog G.w) (is_kis i) h0 (h4.mapOf _ h1 h2 h3) ⟨_, _, ?_, S, .tok, q⟩
 have z := h4.findBy (k := k)
 dsimp only
 cases e : kget k l with
 | some d => rw [e] at z; obtain ⟨v, e1, e2⟩ := z; rw [e1]; exact .bool _
 | none => rw [e] at z; rw [z]; exact .bool _
theorem Item.dct {a l k d} (h : DctAt G H a l) (hd : kget k l = some d) (q : Q d H) : Item G n H (.ref a) (kd k) Q := fun value slice s v w i j B A T O S => by
 (first | (replace i := i.inv; obtain rfl := i) | (replace i := i.inv; obtain ⟨_, rfl⟩ := i) | cases i)
 obtain ⟨h0, o, es, c, h1, h2, h3, h4⟩ := h _ _ T S
 have z := h4.findBy (k := k)
 rw [hd] at z
 obtain ⟨v, e1, e2⟩ := z
 obtain ⟨ops, e⟩ := subscripted_false slice (.ref a) w
 have M := h4.mapOf (P := G.prog) G.w h1 h2 h3
 exact tail_any M.typeIs slot_dict_getitem.lookup (wpAny_getItem_of (knd := mx G.prog G.w) (is_kis j) M e1 ⟨_, _, e2, S, .tok, q⟩) e
theorem Cal.dget {a l k} (h : DctAt G H a l) (q : Q ((kget k l).getD .none) H) : Cal G n H (.builtin "dict.get") [.ref a, kd k] Q := fun s vs i B A T O S => by
 replace i := i.inv; obtain ⟨_, _, rfl, i, j⟩ := i
 replace j := j.inv; obtain ⟨_, _, rfl, j, k'⟩ := j
 (first | (replace i := i.inv; obtain rfl := i) | (replace i := i.inv; obtain ⟨_, rfl⟩ := i) | cases i); (first | (replace k' := k'.inv; obtain rfl := k') | (replace k' := k'.inv; obtain ⟨_, rfl⟩ := k') | cases k')
 obtain ⟨h0, o, es, c, h1, h2, h3, h4⟩ := h _ _ T S
 have M := h4.mapOf (P := G.prog) G.w h1 h2 h3
 refine call_meetsIn PySem.F.slot_dict_get M.typeIs PySem.F.entry_dict_get (PySem.F.args_dict_get_2 _ _) (meets_dict_get (mx G.prog G.w) a (is_kis j) h0) ⟨_, M, _, _, ?_, S, .tok, q⟩
 have z := h4.findBy (k := k)
 dsimp only
 cases e : kget k l with
 | some d => rw [e] at z; obtain ⟨v, e1, e2⟩ := z; rw [e1]; exact e2
 | none => rw [e] at z; rw [z]; exact .none
theorem Cal.dget2 {a l k d} (h : DctAt G H a l) (q : Q ((kget k l).getD d) H) : Cal G n H (.builtin "dict.get") [.ref a, kd k, d] Q := fun s vs i B A T O S => by
 replace i := i.inv; obtain ⟨_, _, rfl, i, j⟩ := i
 replace j := j.inv; obtain ⟨_, _, rfl, j, k'⟩ := j
 cases k' with | cons k' k'' =>
 (first | (replace i := i.inv; obtain rfl := i) | (replace i := i.inv; obtain ⟨_, rfl⟩ := i) | cases i); (first | (replace k'' := k''.inv; obtain rfl := k'') | (replace k'' := k''.inv; obtain ⟨_, rfl⟩ := k'') | cases k'')
 obtain ⟨h0, o, es, c, h1, h2, h3, h4⟩ := h _ _ T S
 have M := h4.mapOf (P := G.prog) G.w h1 h2 h3
 refine call_meetsIn PySem.F.slot_dict_get M.typeIs PySem.F.entry_dict_get (PySem.F.args_dict_get_3 _ _ _) (meets_dict_get_default (mx G.prog G.w) a (is_kis j) h0 _) ⟨_, M, _, _, ?_, S, .tok, q⟩
 have z := h4.findBy (k := k)
 dsimp only
 cases e : kget k l with
 | some d => rw [e] at z; obtain ⟨v, e1, e2⟩ := z; rw [e1]; exact e2
 | none => rw [e] at z; rw [z]; exact k'
end
end
section
set_option tactic.hygienic false
inductive KvL (h : Heap) : List (Ky × Value) → List (D × D) → Prop
 | nil : KvL h [] []
 | cons {k : Ky} {v : Value} {d : D} {kvs l} : Is h v d → KvL h kvs l → KvL h ((k, v) :: kvs) ((kd k, d) :: l)
theorem Ent.kv {prog : Program} {w : World} {h : Heap} {es : List DictEntry} {l : List (D × D)} (z : Ent w.params h es l) : ∃ kvs, Pairs (mx prog w) es kvs ∧ KvL h kvs l := by
 induction z with
 | nil => exact ⟨[], .nil, .nil⟩
 | @str e x _ _ _ _ a b c r ih => obtain ⟨kvs, p, q⟩ := ih; exact ⟨(.inl x, e.val) :: kvs, .cons (by show kis (.inl x) e.key = true; rw [a]; simp [kis, Value.isStrOf]) rfl p, .cons c q⟩
 | @int e x _ _ _ _ a b c r ih => obtain ⟨kvs, p, q⟩ := ih; exact ⟨(.inr x, e.val) :: kvs, .cons (by show kis (.inr x) e.key = true; rw [a]; simp [kis, Value.isInt]) rfl p, .cons c q⟩
theorem KvL.ent {prog : Program} {w : World} {h : Heap} {es : List DictEntry} {kvs : List (Ky × Value)} {l : List (D × D)} (hk : ∀ e ∈ es, ∃ k, (mx prog w).is k e.key = true ∧ e.hash = (mx prog w).hash k) (p : Pairs (mx prog w) es kvs) (q : KvL h kvs l) : Ent w.params h es l := by
 induction p generalizing l with
 | nil => cases q; exact .nil
 | @cons e kv es kvs a b p ih0 =>
  cases q with | @cons k v d _ _ c q =>
  have ih := ih0 (fun e he => hk e (.tail _ he)) q
  obtain ⟨j, h1, h2⟩ := hk e (.head _)
  have e1 : j = k := (mx prog w).inj _ _ _ h1 a
  subst e1
  simp only at a b
  subst b
  cases j with
  | inl x => obtain ⟨t, e2⟩ := Value.isStrOf_shape (show Value.isStrOf x e.key = true from a); exact .str e2 h2 c ih
  | inr x => obtain ⟨t, e2⟩ := Value.isInt_shape (show Value.isInt x e.key = true from a); exact .int e2 h2 c ih
noncomputable def knodB : List (D × D) → Bool
 | [] => true
 | p :: r => (match kOf p.1 with | some k => !(r.any fun q => kt k q.1) | none => true) && knodB r
theorem kOf_kd (k : Ky) : kOf (kd k) = some k := by cases k <;> rfl
theorem KvL.any {h : Heap} {k : Ky} {kvs : List (Ky × Value)} {l : List (D × D)} (x : KvL h kvs l) : (kvs.any fun kv => decide (kv.1 = k)) = l.any fun q => kt k q.1 := by
 induction x with
 | nil => rfl
 | cons a b ih => simp only [List.any_cons, kt_kd, ih]
theorem KvL.nodup {h : Heap} {kvs : List (Ky × Value)} {l : List (D × D)} (x : KvL h kvs l) (q : knodB l = true) : (kvs.map (·.1)).Nodup := by
 induction x with
 | nil => exact List.nodup_nil
 | @cons k _ _ _ _ a b ih =>
  unfold knodB at q
  rw [Bool.and_eq_true] at q
  simp only [kOf_kd] at q
  rw [List.map_cons, List.nodup_cons]
  refine ⟨fun z => ?_, ih q.2⟩
  have e := b.any (k := k)
  rw [Bool.not_eq_true'] at q
  rw [q.1] at e
  obtain ⟨kv, h1, h2⟩ := List.mem_map.mp z
  have := List.any_eq_false.mp e kv h1
  simp [h2] at this
theorem KvL.mono {h h' : Heap} (kp : TupKeep h h') {kvs : List (Ky × Value)} {l : List (D × D)} (x : KvL h kvs l) : KvL h' kvs l := by
 induction x with
 | nil => exact .nil
 | cons a b ih => exact .cons (a.mono kp) ih
theorem KvL.snoc {h : Heap} {k : Ky} {v : Value} {d : D} (i : Is h v d) {kvs : List (Ky × Value)} {l : List (D × D)} (x : KvL h kvs l) (q : (l.any fun q => kt k q.1) = false) : KvL h (kvs ++ [(k, v)]) (kput k d l) := by
 induction x with
 | nil => exact .cons i .nil
 | @cons j _ _ _ _ a b ih =>
  rw [List.any_cons, kt_kd, Bool.or_eq_false_iff] at q
  unfold kput
  simp only [kt_kd, q.1, Bool.false_eq_true, if_false]
  exact .cons a (ih q.2)
theorem map_none {kvs : List (Ky × Value)} {k : Ky} {v : Value} (h : (kvs.any fun kv => decide (kv.1 = k)) = false) : kvs.map (fun kv => if kv.1 = k then (kv.1, v) else kv) = kvs := by
 rw [List.any_eq_false] at h
 conv => rhs; rw [← List.map_id kvs]
 refine List.map_congr_left fun x hx => ?_
 have := h x hx
 simp only [decide_eq_true_eq] at this
 simp [this]
theorem KvL.repl {h : Heap} {k : Ky} {v : Value} {d : D} (i : Is h v d) {kvs : List (Ky × Value)} {l : List (D × D)} (x : KvL h kvs l) (z : knodB l = true) (q : (l.any fun q => kt k q.1) = true) : KvL h (kvs.map fun kv => if kv.1 = k then (kv.1, v) else kv) (kput k d l) := by
 induction x with
 | nil => cases q
 | @cons j u _ _ _ a b ih =>
  unfold knodB at z
  rw [Bool.and_eq_true] at z
  simp only [kOf_kd, Bool.not_eq_true'] at z
  rw [List.any_cons, kt_kd] at q
  unfold kput
  by_cases e : j = k
  ·subst e
   simp only [kt_kd, decide_true, if_true, List.map_cons]
   rw [map_none (by rw [b.any]; exact z.1)]
   exact .cons i b
  ·simp only [kt_kd, e, decide_false, Bool.false_eq_true, if_false, Bool.false_or, List.map_cons] at q ⊢
   exact .cons a (ih z.2 q)
theorem KvL.stored {h : Heap} {k : Ky} {v : Value} {d : D} (i : Is h v d) {kvs : List (Ky × Value)} {l : List (D × D)} (b : KvL h kvs l) (z : knodB l = true) : KvL h (PySem.stored kvs k v) (kput k d l) := by
 unfold PySem.stored
 rw [b.any]
 cases e : l.any fun q => kt k q.1 with
 | true => exact b.repl i z e
 | false => exact b.snoc i e
theorem KvL.length {h : Heap} {kvs : List (Ky × Value)} {l : List (D × D)} (x : KvL h kvs l) : kvs.length = l.length := by
 induction x with
 | nil => rfl
 | cons _ b ih => exact congrArg Nat.succ ih
section
variable {G : Gd} {n : Nat} {env : Env} {m : Loc} {H : Hp} {Q : D → Hp → Prop}
theorem SetI.dct {a l k d} {QH : Hp → Prop} (h : H a = some (.dct l)) (z : knodB l = true) (q : QH (H.set a (.dct (kput k d l)))) (hz : autoParam (l.length ≤ sizeLine) aD) : SetI G n H (.ref a) (kd k) d QH := fun s v1 v2 v3 i j r B A T O S => by
 (first | (replace i := i.inv; obtain rfl := i) | (replace i := i.inv; obtain ⟨_, rfl⟩ := i) | cases i)
 obtain ⟨o, es, c, h1, h2, h3, h4⟩ := (S.own _ _ h).2
 obtain ⟨kvs, p, b⟩ := h4.kv (prog := G.prog)
 refine wpAny_setItem_pairs (knd := mx G.prog G.w) (kvs := kvs) (is_kis j) ⟨o, es.toArray, c, h1, h2, h3, fun e he => h4.keysOf (prog := G.prog) e (by simpa using he), by simpa using p, b.nodup z⟩ ?_ (by rw [b.length]; exact hz)
 rintro h' ⟨o', es', c', g1, g2, g3, g4, g5, g6⟩ hs
 have kp := S.tupBut h hs
 have S' := S.upd (x' := .dct (kput k d l)) h hs ⟨o', es'.toList, c', g1, g2, by simpa using g3, KvL.ent (fun e he => g4 e (by simpa using he)) g5 ((b.mono kp).stored (r.mono kp) z)⟩
 exact ⟨(), _, rfl, S', .mk' kp, q⟩
end
end
section
set_option tactic.hygienic false
section
variable {G : Gd} {n : Nat} {env : Env} {m : Loc} {H : Hp} {Q : Fl → Loc → Hp → Prop} {rest : List Stmt}
noncomputable def Whl (G : Gd) (n : Nat) (env : Env) (test : Expr) (body : List Stmt) : Nat → Loc → Hp → (Fl → Loc → Hp → Prop) → Prop
 | 0, _, _, _ => False
 | k + 1, m, H, Q => EvB G n env m H test fun b H1 => (b = true → Ex G n env m H1 body fun fl m2 H2 => match fl with
  | .next => Whl G n env test body k m2 H2 Q
  | .cont => Whl G n env test body k m2 H2 Q
  | .brk => Q .next m2 H2
  | .ret r => Q (.ret r) m2 H2) ∧ (b = false → Q .next m H1)
theorem Ex.while' {test : Expr} {body : List Stmt} {pos : Pos} (k : Nat) (h : Whl G n env test body k m H (Thn G n env rest Q)) : Ex G n env m H (.While test body [] pos :: rest) Q := Ex.cons fun s hL B A T O S => by
 refine wpAny_While (codeAny_mono (codeAny_whileLoop (R := fun r s' => ∃ f, r = .ok f ∧ Got IsF G B s (FS env.locals (Thn G n env rest Q)) f s')
  (fun k s' => ∃ m H, H env.locals = none ∧ Sat G B (H.set env.locals (.ns m)) s'.heap ∧ Step s s' ∧ Whl G n env test body k m H (Thn G n env rest Q)) ?_ k ⟨m, H, hL, S, .refl _, h⟩) ?_)
 ·rintro k s1 ⟨m, H, hL, S, st, h⟩
  cases k with
  | zero => exact h.elim
  | succ k =>
   refine wpAny_mono (h s1 hL B A T O S) ?_ fun _ _ z => z.elim
   rintro b s2 ⟨_, _, rfl, S2, st2, H2, rfl, hL2, h2⟩
   cases b with
   | false => exact wpAny_execs_nil ⟨_, rfl, .next, _, .next, S2, st.trans st2, m, H2, rfl, hL2, h2.2 rfl⟩
   | true =>
    refine wpAny_mono (h2.1 rfl s2 hL2 B A T O S2) ?_ fun _ _ z => z.elim
    rintro f s3 ⟨fl, _, i3, S3, st3, m3, H3, rfl, hL3, h3⟩
    have st' := (st.trans st2).trans st3
    cases i3 with
    | next => exact ⟨k, Nat.lt_succ_self _, m3, H3, hL3, S3, st', h3⟩
    | cont => exact ⟨k, Nat.lt_succ_self _, m3, H3, hL3, S3, st', h3⟩
    | brk => exact ⟨_, rfl, .next, _, .next, S3, st', m3, H3, rfl, hL3, h3⟩
    | ret a => exact ⟨_, rfl, _, _, .ret a, S3, st', m3, H3, rfl, hL3, h3⟩
 ·rintro r s3 ⟨f, rfl, fl, H', i', S', st', q⟩
  exact ⟨fl, H', i', S', st', q⟩
end
section
variable {G : Gd} {H : Hp}
theorem letGo_tupleiter {prog : Program} {w : World} {A : Around} {E : Value → Shared → Prop} {s : Shared} {elts : List Expr} {x1} {pos : Pos} {I l T : Addr} {i : Nat} {Q : Unit → Shared → Prop} (hit : s.heap.IsTupleIter I l i) (hQ : Q () s) :
  wpAny (model prog w) A (letOwnedTupleGo (.Tuple elts x1 pos) (.ref I) (.ref T)) Q E s := by
 obtain ⟨o, ho, hc, hd⟩ := hit
 show wpAny _ _ (load I >>= _) _ _ _
 refine wpAny_bind (wpAny_load ho ?_)
 rw [hc, hd]
 exact wpAny_pure hQ
noncomputable def srcT (it : Addr) (ds : List D) : Src G :=
 Src.one it isTgt ds (fun k => titX ds k) (fun H => True) (fun _ _ => trivial)
  (by
   intro target k d H B A s ht hi hf hl T O S
   obtain ⟨o, h1, _, t, vs, h4, h5, h2, h3⟩ := raw_at S (Hp.set_self ..)
   obtain ⟨v, hv, iv⟩ := h5.get hi
   refine wpAny_pyNext_tuple_item (i := k) (items := vs.toArray) ⟨o, h1, h2, h3⟩ (tupOf h4) (by simpa using hv) fun h' hr hs => ⟨_, rfl, ?_⟩
   have kp := S.tupBut (Hp.set_self ..) hs
   have z := S.upd (x' := titX ds (k + 1)) (Hp.set_self ..) hs (by
    obtain ⟨o', a, b, c⟩ := hr
    have e : t = t := rfl
    exact ⟨o', a, by unfold imm; rw [c, b]; exact (by decide : (Value.type "tuple_iterator" == Value.type "range") = false), t, vs, kp.tup h4, h5.mono kp, b, c⟩)
   rw [Hp.set_set] at z
   have fin : Is h' v d ∧ Sat G B (H.set it (titX ds (k + 1))) h' ∧ Step s { s with heap := h' } := ⟨iv.mono kp, z, .hp kp⟩
   cases hn : isNm target with
   | true => rw [letGo_name hn]; exact wpAny_pure fin
   | false =>
    obtain ⟨elts, kk, pos, rfl⟩ := isTp_of ht hn
    cases iv with
    | ref => exact letGo_tupleiter hr fin
    | tup => exact letGo_tupleiter hr fin
    | rng => exact letGo_tupleiter hr fin
    | _ => exact wpAny_pure fin)
  (by
   intro k H B A s hk hf hl T O S
   obtain ⟨o, h1, _, t, vs, h4, h5, h2, h3⟩ := raw_at S (Hp.set_self ..)
   refine wpAny_pyNext_tuple_end O.handled (i := k) (items := vs.toArray) ⟨o, h1, h2, h3⟩ (tupOf h4) (by
    have := h5.length
    simp; one_sign) fun h' he => ?_
   obtain ⟨S', kp⟩ := S.dropBut hf he
   exact ⟨rfl, S', .hp kp⟩)
  (by
   intro k H B A s S
   obtain ⟨o, h1, _, t, vs, h4, h5, h2, h3⟩ := raw_at S (Hp.set_self ..)
   exact wpAny_pyIter_tupleiter (i := k) ⟨o, h1, h2, h3⟩ ⟨rfl, rfl⟩)
theorem Itr.tup {n : Nat} {ds : List D} : Itr G n H (.tup ds) isTgt H ds fun _ => True := by
 intro s v i B A T O S
 replace i := i.inv; obtain ⟨a, vs, rfl, t, i⟩ := i
 refine wpAny_pyIter_tuple (tupOf t) ?_
 have kp := push_keeps s.heap { cls := .type "tuple_iterator", data := .fields #[.ref a, .int 0 0] }
 have hf := S.fresh (Nat.le_refl _)
 refine ⟨srcT s.heap.objs.size ds, _, rfl, ?_, .hp (.keeps kp), rfl, rfl, rfl, hf, rfl⟩
 ·exact S.new (x := titX ds 0) kp (Nat.le_refl _) ⟨_, Heap.get?_push_size _ rfl, rfl, a, vs, (TupKeep.keeps kp).tup t, i.mono (.keeps kp), rfl, rfl⟩
end
noncomputable def Tst (G : Gd) (n : Nat) (env : Env) (m : Loc) (H : Hp) (ifs : List Expr) (QB : Bool → Hp → Prop) : Prop := match ifs with
 | [] => QB true H
 | [c] => EvB G n env m H c QB
 | _ => False
noncomputable def Lc (G : Gd) (n : Nat) (env : Env) (target elt : Expr) (ifs : List Expr) (ok : Hp → Prop) : List D → Loc → Hp → List D → (List D → Hp → Prop) → Prop
 | [], m, H, acc, Q => ok H ∧ Q acc H
 | d :: ds, m, H, acc, Q => ok H ∧ Asg G n env m H target d fun m1 H1 => Tst G n env m1 H1 ifs fun b H2 =>
  (b = true → Ev G n env m1 H2 elt fun e H3 => Lc G n env target elt ifs ok ds m1 H3 (acc ++ [e]) Q) ∧ (b = false → Lc G n env target elt ifs ok ds m1 H2 acc Q)
section
variable {G : Gd} {n : Nat} {env : Env}
theorem compLoop_go {prog : Program} {w : World} {A : Around} {R : Result → Shared → Prop} {s : Shared} {elt target iter : Expr} {ifs : List Expr} {scope : Scope} {pos : Pos} {it acc : Value} {env : Env} (I : Nat → Shared → Prop)
  (turn : ∀ n s, I n s → wpAny (model prog w) A (pyNext it) (fun r s₁ => match r with
   | none => R (.ok .next) s₁
   | some v => wpAny (model prog w) A (letOwnedTupleGo target it v) (fun _ s₁ => wpAny (model prog w) A (assign target env v) (fun _ s₂ =>
     wpAny (model prog w) A (forIn ifs true fun c r => if r = true then do let ok ← isTrue c env (eval c env); pure (ForInStep.yield ok) else pure (ForInStep.yield r)) (fun ok s₃ =>
      if ok = true then wpAny (model prog w) A (eval elt env) (fun x s₄ =>
       wpAny (model prog w) A (call (.builtin "list.append") [acc, x]) (fun _ s₅ => ∃ m, m < n ∧ I m s₅) (fun _ _ => False) s₄) (fun _ _ => False) s₃
      else ∃ m, m < n ∧ I m s₃) (fun _ _ => False) s₂) (fun _ _ => False) s₁) (fun _ _ => False) s₁) (fun _ _ => False) s)
  (n : Nat) (h : I n s) :
  codeAny (model prog w) A (.compLoop (.ListComp elt [⟨target, iter, ifs, 0⟩] scope pos) 0 it acc env) R s := by
 refine codeAny_loop rfl I (fun n s hI => ?_) n h
 show wpAny _ A ((compTurn (.ListComp elt [⟨target, iter, ifs, 0⟩] scope pos) 0 it acc env).onRaise (fun x => do noteFrame x env; theTreesLotGoes x)) _ _ s
 refine wpAny_noted ?_
 rw [compTurn_list]
 refine wpAny_bind (wpAny_standAt (wpAny_bind (wpAny_mono (turn n s hI) (fun r s₁ h₁ => ?_) fun _ _ h' => h'.elim)))
 cases r with
 | none => exact wpAny_pure h₁
 | some v =>
  refine wpAny_bind (wpAny_mono h₁ (fun _ s₁ h₁ => ?_) fun _ _ h' => h'.elim)
  refine wpAny_bind (wpAny_mono h₁ (fun _ s₂ h₂ => wpAny_bind (wpAny_mono h₂ (fun ok s₃ h₃ => ?_) fun _ _ h' => h'.elim)) fun _ _ h' => h'.elim)
  cases ok with
  | false => exact wpAny_pure ⟨rfl, h₃⟩
  | true =>
   exact wpAny_bind (wpAny_bind (wpAny_mono h₃ (fun x s₄ h₄ => wpAny_bind (wpAny_mono h₄ (fun _ s₅ h₅ => wpAny_pure (wpAny_pure ⟨rfl, h₅⟩)) fun _ _ h' => h'.elim)) fun _ _ h' => h'.elim))
structure Cfg (H : Hp) (C L Da : Addr) : Prop where
 c : H C = none
 l : H L = none
 d : H Da = none
noncomputable abbrev full (S : Src G) (C L Da : Addr) (xL : X) (k : Nat) (mc : Loc) (acc : List D) (H : Hp) : Hp := (S.put k ((H.set C (.ns mc)).set L xL)).set Da (.lst acc)
noncomputable abbrev fr (S : Src G) (C L : Addr) (xL : X) (mc : Loc) (H : Hp) : Prop := S.fresh ((H.set C (.ns mc)).set L xL)
theorem fr3 {α β : Type} {R : Heap → α → β → Prop} {S : Src G} {C L Da : Addr} {xL : X} {H : Hp} {mc : Loc} {k : Nat} {acc : List D} {s : Shared} {t : Sem α} {Q : β → Loc → Hp → Prop}
  (h : At R G n (H.set C (.ns mc)) s t (FS C Q)) (g : Cfg H C L Da) (hCL : C ≠ L) (hDC : Da ≠ C) (hDL : Da ≠ L) (hf : fr S C L xL mc H) (hD : ∃ k' H', S.fresh H' ∧ (S.put k' H') Da = none) :
  At R G n (full S C L Da xL k mc acc H) s t fun d H' => ∃ m' H'', H' = full S C L Da xL k m' acc H'' ∧ Cfg H'' C L Da ∧ fr S C L xL m' H'' ∧ Q d m' H'' := by
 obtain ⟨k', H', hf', hD⟩ := hD
 have e : (S.put k ((H.set C (.ns mc)).set L xL)) Da = none := by
  rw [(S.comm (x := .none |> fun (_ : D) => .ns mc) hf hf' hD).2.2, Hp.set_ne _ _ hDL, Hp.set_ne _ _ hDC, g.d]
 have h1 := At.frame (L := L) (x := xL) (by rw [Hp.set_ne _ _ (Ne.symm hCL)]; exact g.l) h
 have h2 := At.frame (L := Da) (x := .lst acc) e (S.frame (k := k) h1 hf)
 refine h2.mono ?_
 rintro d _ ⟨_, rfl, e1, _, rfl, f1, _, rfl, e2, m', H'', rfl, e3, q⟩
 have e4 : (H''.set C (.ns m')).set L xL Da = none := by rw [← (S.comm (x := .ns mc) f1 hf' hD).2.2]; exact e1
 refine ⟨m', H'', rfl, ⟨e3, ?_, ?_⟩, f1, q⟩
 ·rw [Hp.set_ne _ _ (Ne.symm hCL)] at e2; exact e2
 ·rw [Hp.set_ne _ _ hDL, Hp.set_ne _ _ hDC] at e4; exact e4
theorem fr3q {α β : Type} {R : Heap → α → β → Prop} {S : Src G} {C L Da : Addr} {xL : X} {H : Hp} {mc : Loc} {k : Nat} {acc : List D} {s : Shared} {t : Sem α} {Q : β → Hp → Prop}
  (h : At R G n (H.set C (.ns mc)) s t (FQ C mc Q)) (g : Cfg H C L Da) (hCL : C ≠ L) (hDC : Da ≠ C) (hDL : Da ≠ L) (hf : fr S C L xL mc H) (hD : ∃ k' H', S.fresh H' ∧ (S.put k' H') Da = none) :
  At R G n (full S C L Da xL k mc acc H) s t fun d H' => ∃ H'', H' = full S C L Da xL k mc acc H'' ∧ Cfg H'' C L Da ∧ fr S C L xL mc H'' ∧ Q d H'' :=
 (fr3 (Q := fun b m' H' => m' = mc ∧ Q b H') (h.mono fun d _ ⟨H'', a, b, c⟩ => ⟨mc, H'', a, b, rfl, c⟩) g hCL hDC hDL hf hD).mono fun d _ ⟨m', H'', a, b, c, e, q⟩ => by subst e; exact ⟨H'', a, b, c, q⟩
inductive CpI (S : Src G) (n : Nat) (env : Env) (L Da : Addr) (xL : X) (target elt : Expr) (ifs : List Expr) (B : Heap) (s₀ : Shared) (QA : List D → Hp → Prop) (j : Nat) (s' : Shared) : Prop
 | mk (k : Nat) (mc : Loc) (H : Hp) (acc : List D) (hj : j = S.items.length - k) (g : Cfg H env.locals L Da) (f : fr S env.locals L xL mc H) (hS : Sat G B (full S env.locals L Da xL k mc acc H) s'.heap) (st : Step s₀ s') (hk : k ≤ S.items.length) (a : acc.length ≤ k) (q : Lc G n env target elt ifs S.ok (S.items.drop k) mc H acc QA)
inductive CpT (S : Src G) (n : Nat) (env : Env) (L Da : Addr) (xL : X) (target elt : Expr) (ifs : List Expr) (B : Heap) (s₀ : Shared) (QA : List D → Hp → Prop) (k : Nat) (m4 : Loc) (acc : List D) (b : Bool) (s5 : Shared) : Prop
 | mk (H5 : Hp) (hS : Sat G B (full S env.locals L Da xL (k + 1) m4 acc H5) s5.heap) (st : Step s₀ s5) (g : Cfg H5 env.locals L Da) (f : fr S env.locals L xL m4 H5) (q : b = true → Ev G n env m4 H5 elt fun e H3 => Lc G n env target elt ifs S.ok (S.items.drop (k + 1)) m4 H3 (acc ++ [e]) QA) (q' : b = false → Lc G n env target elt ifs S.ok (S.items.drop (k + 1)) m4 H5 acc QA)
theorem comp_run {C L Da : Addr} {xL : X} (S : Src G) {target elt iter : Expr} {ifs : List Expr} {scope : Scope} {pos : Pos} (hC : env.locals = C) (ht : S.tgt target = true) {B : Heap} {A : Around} {s₀ : Shared} (T : TopOk G B) (O : Ok A n) (hn : 1 ≤ n)
  (hCL : C ≠ L) (hDC : Da ≠ C) (hDL : Da ≠ L) (hD : ∃ k' H', S.fresh H' ∧ (S.put k' H') Da = none) (hlen : S.items.length ≤ sizeLine)
  {s : Shared} {k : Nat} {mc : Loc} {H : Hp} {acc : List D} {QA : List D → Hp → Prop} (g : Cfg H C L Da) (hf : fr S C L xL mc H) (hS : Sat G B (full S C L Da xL k mc acc H) s.heap) (st : Step s₀ s) (hk : k ≤ S.items.length) (ha : acc.length ≤ k)
  (h : Lc G n env target elt ifs S.ok (S.items.drop k) mc H acc QA) :
  codeAny (model G.prog G.w) A (.compLoop (.ListComp elt [⟨target, iter, ifs, 0⟩] scope pos) 0 (.ref S.it) (.ref Da) env) (fun r s' => r = .ok .next ∧ ∃ mc acc H, Cfg H C L Da ∧ Sat G B (((H.set C (.ns mc)).set L xL).set Da (.lst acc)) s'.heap ∧ Step s₀ s' ∧ QA acc H) s := by
 subst hC
 obtain ⟨k', H', hf', hD'⟩ := id hD
 refine compLoop_go (CpI S n env L Da xL target elt ifs B s₀ QA)
  ?_ (S.items.length - k) ⟨k, mc, H, acc, rfl, g, hf, hS, st, hk, ha, h⟩
 rintro j s1 ⟨k, mc, H, acc, rfl, g, hf, hS, st, hk, ha, h⟩
 have okX : S.ok H → S.ok (((H.set env.locals (.ns mc)).set L xL).set Da (.lst acc)) := fun o =>
  S.okSet (by rw [Hp.set_ne _ _ hDL, Hp.set_ne _ _ hDC]; exact g.d) (S.okSet (by rw [Hp.set_ne _ _ (Ne.symm hCL)]; exact g.l) (S.okSet g.c o))
 obtain ⟨f1, e1, _⟩ := S.comm (k := k) (x := .lst acc) hf hf' hD'
 by_cases hlt : k < S.items.length
 ·have e : S.items.drop k = S.items[k] :: S.items.drop (k + 1) := List.drop_eq_getElem_cons hlt
  rw [e] at h
  obtain ⟨hok, h⟩ := h
  have hi : S.items[k]? = some S.items[k] := List.getElem?_eq_getElem hlt
  refine wpAny_mono (S.head ht hi f1 (okX hok) T (O.le hn) (by rw [e1]; exact hS)) ?_ fun _ _ z => z.elim
  rintro r s2 ⟨v, rfl, h2⟩
  refine wpAny_mono h2 ?_ fun _ _ z => z.elim
  rintro _ s3 ⟨i3, S3, st3⟩
  rw [(S.comm (k := k + 1) (x := .lst acc) hf hf' hD').2.1] at S3
  refine wpAny_mono (fr3 (h s3 v g.c i3) g hCL hDC hDL hf hD B A T O S3) ?_ fun _ _ z => z.elim
  rintro _ s4 ⟨_, _, _, S4, st4, m4, H4, rfl, g4, f4, h4⟩
  have tst : wpAny (model G.prog G.w) A (forIn ifs true fun c r => if r = true then do let ok ← isTrue c env (eval c env); pure (ForInStep.yield ok) else pure (ForInStep.yield r))
    (CpT S n env L Da xL target elt ifs B s4 QA k m4 acc) (fun _ _ => False) s4 := by
   cases ifs with
   | nil => exact wpAny_tests_nil ⟨H4, S4, .refl _, g4, f4, h4.1, h4.2⟩
   | cons c r =>
    cases r with
    | nil =>
     refine wpAny_tests_one (wpAny_mono (fr3q (h4 s4 g4.c) g4 hCL hDC hDL f4 hD B A T O S4) ?_ fun _ _ z => z.elim)
     rintro b s5 ⟨_, _, rfl, S5, st5, H5, rfl, g5, f5, h5⟩
     exact ⟨H5, S5, st5, g5, f5, h5.1, h5.2⟩
    | cons _ _ => exact h4.elim
  refine wpAny_mono tst ?_ fun _ _ z => z.elim
  rintro b s5 ⟨H5, S5, st5, g5, f5, h5, h5'⟩
  have stA : Step s₀ s5 := ((st.trans st3).trans st4).trans st5
  cases b with
  | false =>
   simp only [Bool.false_eq_true, if_false]
   exact ⟨_, by one_sign, k + 1, m4, H5, acc, rfl, g5, f5, S5, stA, by one_sign, by one_sign, h5' rfl⟩
  | true =>
   simp only [if_true]
   refine wpAny_mono (fr3q (h5 rfl s5 g5.c) g5 hCL hDC hDL f5 hD B A T O S5) ?_ fun _ _ z => z.elim
   rintro x s6 ⟨d, _, i6, S6, st6, H6, rfl, g6, f6, h6⟩
   obtain ⟨_, vs, t, i⟩ := S6.own Da _ (Hp.set_self ..)
   refine wpAny_list_append_plain t (fun h' hl hsb => ?_) (by rw [List.size_toArray, i.length]; one_sign)
   have kp := S6.tupBut (Hp.set_self ..) hsb
   have S7 := S6.upd (x' := .lst (acc ++ [d])) (Hp.set_self ..) hsb ⟨vs ++ [_], by rw [List.push_toArray] at hl; exact hl, (i.mono kp).append (.cons (i6.mono kp) .nil)⟩
   rw [Hp.set_set] at S7
   exact ⟨_, by one_sign, k + 1, m4, H6, _, rfl, g6, f6, S7, (stA.trans st6).trans (.hp kp), by one_sign, by simp; one_sign, h6⟩
 ·obtain rfl : k = S.items.length := by one_sign
  rw [List.drop_length] at h
  refine wpAny_mono (S.done rfl f1 (okX h.1) T (O.le hn) (by rw [e1]; exact hS)) ?_ fun _ _ z => z.elim
  rintro r s2 ⟨rfl, S2, st2⟩
  exact ⟨rfl, mc, acc, H, g, S2, st.trans st2, h.2⟩
end
end
section
set_option tactic.hygienic false
section
variable {G : Gd} {n : Nat} {env : Env} {m : Loc} {H : Hp} {Q : D → Hp → Prop}
theorem comp_core {target elt iter : Expr} {ifs : List Expr} {scope : Scope} {cl : List (Str × Addr)} {pos : Pos} {xL : X} {B : Heap} {A : Around} {s₀ s : Shared} {QA : List D → Hp → Prop} {RR : Value → Addr → Result → Shared → Prop} {H₀ : Hp} (S : Src G) (ht : S.tgt target = true)
  (hcell : ∀ y ∈ scope.names, y.2 ≠ .cell) (hkind : scope.kind = .function) (T : TopOk G B) (O : Ok A n) (hn : 1 ≤ n) (hL : H₀ env.locals = none) (hf : S.fresh H₀) (hLp : (S.put 0 H₀) env.locals = none)
  (hS : Sat G B ((S.put 0 H₀).set env.locals xL) s.heap) (st : Step s₀ s) (hlen : S.items.length ≤ sizeLine)
  (h : ∀ C, H₀ C = none → C ≠ env.locals → Lc G n (compEnvC scope cl C env) target elt ifs S.ok S.items (fun _ => none) H₀ [] QA)
  (hR : ∀ Da C s' mc H acc, Cfg H C env.locals Da → C ≠ env.locals → Da ≠ C → Da ≠ env.locals → Sat G B (((H.set Da (.lst acc)).set env.locals xL).set C (.ns mc)) s'.heap → Step s₀ s' → QA acc H → RR (.ref Da) C (.ok .next) s') :
  wpAny (model G.prog G.w) A (newList []) (fun acc s₃ => wpAny (model G.prog G.w) A (newFunctionEnv scope env.globals cl [] env.qual none .none (some env)) (fun cenv s₄ =>
   codeAny (model G.prog G.w) A (.compStart (.ListComp elt [⟨target, iter, ifs, 0⟩] scope pos) 0 (.ref S.it) acc { cenv with scope := relabel scope env }) (RR acc cenv.locals) s₄) (fun _ _ => False) s₃) (fun _ _ => False) s := by
 have hS0 := hS
 obtain ⟨f0, e0, _⟩ := S.comm (k := 0) (x := xL) hf hf hLp
 rw [← e0] at hS
 refine wpAny_newObj_type (wpAny_newFunctionEnv hcell (by intro y hy; simp at hy) (fun h₁ hns₁ hsb₁ => ?_) hkind)
 have k1 := push_keeps s.heap { cls := .type "list", dict := none, data := .seq ([] : List Value).toArray }
 have S3 := hS.new (x := .lst []) k1 (Nat.le_refl _) ⟨[], ⟨_, Heap.get?_push_size _ rfl⟩, .nil⟩
 have Df := hS.fresh (Nat.le_refl _)
 revert hns₁ hsb₁
 generalize hH2 : s.heap.push { cls := .type "list", dict := none, data := .seq ([] : List Value).toArray } = H2 at k1 S3 ⊢
 intro hns₁ hsb₁
 have hC : H2.objs.size = s.heap.objs.size + 1 := by rw [← hH2, Heap.size_push]
 have k2 : ∀ b o, H2.get? b = some o → h₁.get? b = some o := fun b o e => hsb₁.extBut b o (Nat.ne_of_lt (Heap.lt_size e)) (Heap.get?_push_of_some _ e)
 have S4 := S3.new (x := .ns fun _ => none) k2 (Nat.le_refl _) ⟨_, hns₁, fun x d e => by cases e⟩
 have Cf : (S.put 0 (H₀.set env.locals xL)) H2.objs.size = none := hS.fresh (by rw [hC]; exact Nat.le_succ _)
 generalize hCe : H2.objs.size = C at S4 Cf hns₁ hsb₁ hC ⊢
 generalize hDe : s.heap.objs.size = Da at S3 S4 Df hC ⊢
 have hDC : Da ≠ C := by one_sign
 have hCL : C ≠ env.locals := fun z => by subst z; rw [e0, Hp.set_self] at Cf; cases Cf
 have hDL : Da ≠ env.locals := fun z => by subst z; rw [e0, Hp.set_self] at Df; cases Df
 obtain ⟨f1, e1, e1'⟩ := S.comm (k := 0) (x := .ns fun _ => none) f0 f0 Cf
 obtain ⟨_, _, e2'⟩ := S.comm (k := 0) (x := .ns fun _ => none) f0 f0 Df
 rw [Cf, Hp.set_ne _ _ hCL] at e1'
 rw [Df, Hp.set_ne _ _ hDL] at e2'
 have g : Cfg H₀ C env.locals Da := ⟨e1'.symm, hL, e2'.symm⟩
 rw [Hp.set_comm _ _ _ hDC, ← e1, Hp.set_comm _ _ _ (Ne.symm hCL)] at S4
 rw [Hp.set_comm _ _ _ (Ne.symm hCL)] at f1
 have kp : TupKeep s.heap h₁ := .trans (.keeps k1) (.keeps k2)
 have hD : ∃ k' H', S.fresh H' ∧ (S.put k' H') Da = none := ⟨0, _, f0, Df⟩
 have loop : ∀ s₃ : Shared, s₃.heap = h₁ → Step s s₃ → codeAny (model G.prog G.w) A (.compLoop (.ListComp elt [⟨target, iter, ifs, 0⟩] scope pos) 0 (.ref S.it) (.ref Da) (compEnvC scope cl C env)) (RR (.ref Da) C) s₃ := by
  rintro s₃ rfl st3
  refine codeAny_mono (comp_run (env := compEnvC scope cl C env) S rfl ht T O hn hCL hDC hDL hD hlen g f1 S4 (st.trans st3) (Nat.zero_le _) (Nat.le_refl _) (h C g.c hCL)) ?_
  rintro r s' ⟨rfl, mc, acc, H, g', S', st', q⟩
  refine hR Da C s' mc H acc g' hCL hDC hDL ?_ st' q
  rw [Hp.set_comm _ _ _ hDL, Hp.set_comm (H.set env.locals xL) _ _ hDC, Hp.set_comm H _ _ (Ne.symm hCL)]; exact S'
 have st3 : Step s { s with heap := h₁, toks := s.toks + ([] : List (Str × Value)).length } := .mk' kp
 obtain ⟨f2, e2, _⟩ := S.comm (k := 0) (x := .lst []) f1 f0 Df
 have S5 : Sat G B (S.put 0 (((H₀.set C (.ns fun _ => none)).set env.locals xL).set Da (.lst []))) h₁ := by rw [e2]; exact S4
 refine codeAny_compStart_list (loop _ rfl st3) (wpAny_mono (S.self f2 S5) ?_ fun _ _ z => z.elim)
 rintro _ _ ⟨rfl, rfl⟩
 exact loop _ rfl st3
inductive CoQ (G : Gd) (n : Nat) (env : Env) (target elt : Expr) (ifs : List Expr) (scope : Scope) (cl : List (Str × Addr)) (K : List D → Hp → Prop) (d : D) (H1 : Hp) : Prop
 | mk (tgt : Expr → Bool) (H₀ : Hp) (ds : List D) (ok : Hp → Prop) (it : Itr G n H1 d tgt H₀ ds ok) (ht : tgt target = true) (hL : H₀ env.locals = none) (hz : ds.length ≤ sizeLine) (lc : ∀ C, H₀ C = none → C ≠ env.locals → Lc G n (compEnvC scope cl C env) target elt ifs ok ds (fun _ => none) H₀ [] K)
theorem Ev.comp {target elt iter : Expr} {ifs : List Expr} {scope : Scope} {cl : List (Str × Addr)} {pos : Pos} (hn : 1 ≤ n)
  (h : Ev G n env m H iter (CoQ G n env target elt ifs scope cl fun acc H2 => ∀ a, H2 a = none → a ≠ env.locals → Q (.ref a) (H2.set a (.lst acc))))
  (hclos : closureFor scope env = pure cl) (hcell : autoParam (∀ y ∈ scope.names, y.2 ≠ .cell) aD) (hnames : autoParam (∀ y ∈ scope.names, y.2 = .local → scope.names.lookup y.1 = some .local) aD) (hkind : autoParam (scope.kind = .function) aR)
  (hs : autoParam (∀ x, foldedSetIterable iter env x = pure x) aI) : Ev G n env m H (.ListComp elt [⟨target, iter, ifs, 0⟩] scope pos) Q := by
 intro s hL B A T O S
 rw [eval_ListComp]
 refine wpAny_comprehension_free (use := none) rfl hs hclos hkind hnames (wpAny_mono (h s hL B A T O S) ?_ fun _ _ z => z)
 rintro v s1 ⟨d, _, i, S1, st1, H1, rfl, hL1, tgt, H₀, ds, ok, it, ht, hL0, hz, lc⟩
 refine wpAny_mono ((it s1 v i).frame hL1 B A T O S1) ?_ fun _ _ z => z
 rintro _ s2 ⟨Sr, _, rfl, S2, st2, _, rfl, hL2, rfl, rfl, rfl, hf, rfl⟩
 refine comp_core (RR := fun acc C => compPost (model G.prog G.w) A (fun _ _ => False) none _ acc C) Sr ht hcell hkind T O hn hL0 hf hL2 S2 (st1.trans st2) hz lc ?_
 intro Da C s' mc H' acc g hCL hDC hDL S' st' q
 obtain ⟨_, mv, hns, _⟩ := S'.own C _ (Hp.set_self ..)
 refine ⟨mv, hns, fun h' hs' => ?_⟩
 have hCn : ((H'.set Da (.lst acc)).set env.locals (.ns m)) C = none := by rw [Hp.set_ne _ _ hCL, Hp.set_ne _ _ (Ne.symm hDC)]; exact g.c
 obtain ⟨S3, kp⟩ := S'.dropBut hCn hs'.extBut
 exact ⟨_, _, .ref Da, S3, st'.trans (.hp kp), _, rfl, by rw [Hp.set_ne _ _ (Ne.symm hDL)]; exact g.l, q Da g.d hDL⟩
theorem Ex.asgC {QF : Fl → Loc → Hp → Prop} {rest : List Stmt} {y : Str} {py : Pos} {target elt iter : Expr} {ifs : List Expr} {scope : Scope} {cl : List (Str × Addr)} {pos spos : Pos} (hn : 1 ≤ n)
  (h : Ev G n env m H iter (CoQ G n env target elt ifs scope cl fun acc H2 => ∀ a, H2 a = none → a ≠ env.locals → Asg G n env m (H2.set a (.lst acc)) (.Name y py) (.ref a) fun m3 H3 => Ex G n env m3 H3 rest QF))
  (hclos : closureFor scope env = pure cl) (hsw : autoParam (swapsWith (.ListComp elt [⟨target, iter, ifs, 0⟩] scope pos) (some (.Name y py)) spos.line env = pure true) aR) (hcell : autoParam (∀ y ∈ scope.names, y.2 ≠ .cell) aD) (hnames : autoParam (∀ y ∈ scope.names, y.2 = .local → scope.names.lookup y.1 = some .local) aD) (hkind : autoParam (scope.kind = .function) aR)
  (hs : autoParam (∀ x, foldedSetIterable iter env x = pure x) aI) : Ex G n env m H (.Assign [.Name y py] (.ListComp elt [⟨target, iter, ifs, 0⟩] scope pos) spos :: rest) QF := Ex.cons fun s hL B A T O S => by
 rw [exec_Assign_Name_used _ _ _ _ hsw]
 refine wpAny_bind (wpAny_standAt (wpAny_bind ?_))
 show wpAny _ A (do let _ ← comprehension (.ListComp elt [⟨target, iter, ifs, 0⟩] scope pos) scope env _ (newList []) false (eval iter env) (some (assign (.Name y py) env))) _ _ s
 refine wpAny_bind (wpAny_mono (wpAny_comprehension_free (use := some (assign (.Name y py) env)) (Q := fun _ s' => Got IsF G B s (FS env.locals (Thn G n env rest QF)) .next s') rfl hs hclos hkind hnames (wpAny_mono (h s hL B A T O S) ?_ fun _ _ z => z)) (fun _ s' hq => wpAny_pure (wpAny_pure hq)) fun _ _ e => e)
 rintro v s1 ⟨d, _, i, S1, st1, H1, rfl, hL1, tgt, H₀, ds, ok, it, ht, hL0, hz, lc⟩
 refine wpAny_mono ((it s1 v i).frame hL1 B A T O S1) ?_ fun _ _ z => z
 rintro _ s2 ⟨Sr, _, rfl, S2, st2, _, rfl, hL2, rfl, rfl, rfl, hf, rfl⟩
 refine comp_core (RR := fun acc C => compPost (model G.prog G.w) A (fun _ _ => False) (some (assign (.Name y py) env)) _ acc C) Sr ht hcell hkind T O hn hL0 hf hL2 S2 (st1.trans st2) hz lc ?_
 intro Da C s' mc H' acc g hCL hDC hDL S' st' q
 have hCn : ((H'.set Da (.lst acc)).set env.locals (.ns m)) C = none := by rw [Hp.set_ne _ _ hCL, Hp.set_ne _ _ (Ne.symm hDC)]; exact g.c
 have hLn : (H'.set Da (.lst acc)) env.locals = none := by rw [Hp.set_ne _ _ (Ne.symm hDL)]; exact g.l
 refine wpAny_mono (At.frame hCn (q Da g.d hDL s' (.ref Da) hLn (.ref Da)) B A T O S') ?_ fun _ _ z => z
 rintro _ s3 ⟨_, _, _, S3, st3, _, rfl, hC3, m3, H3, rfl, hL3, q3⟩
 obtain ⟨_, mv, hns, _⟩ := S3.own C _ (Hp.set_self ..)
 refine ⟨mv, hns, fun h' hs' => ?_⟩
 obtain ⟨S4, kp⟩ := S3.dropBut hC3 hs'.extBut
 exact ⟨_, _, .next, S4, (st'.trans st3).trans (.hp kp), m3, H3, rfl, hL3, q3⟩
end
end
section
set_option tactic.hygienic false
noncomputable def pickL {α : Type} (xs : List α) (lo hi st : Option Int) : List α :=
 (sliceRange (sliceBounds lo hi st xs.length).1 (sliceBounds lo hi st xs.length).2.1 (sliceBounds lo hi st xs.length).2.2).filterMap (xs[·]?)
theorem IsL.places {h : Heap} {vs : List Value} {l : List D} (i : IsL h vs l) : ∀ js : List Nat, IsL h (js.filterMap (vs[·]?)) (js.filterMap (l[·]?))
 | [] => .nil
 | j :: js => by
  have ih := i.places js
  cases e : l[j]? with
  | some d =>
   obtain ⟨v, h1, h2⟩ := i.get e
   simp only [List.filterMap_cons, e, h1]
   exact .cons h2 ih
  | none =>
   have h1 : vs[j]? = none := by rw [List.getElem?_eq_none_iff] at e ⊢; rw [i.length]; exact e
   simp only [List.filterMap_cons, e, h1]
   exact ih
theorem IsL.pick {h : Heap} {vs : List Value} {l : List D} (i : IsL h vs l) (lo hi st : Option Int) : IsL h (slicePick vs.toArray lo hi st).toList (pickL l lo hi st) := by
 have e : (slicePick vs.toArray lo hi st).toList = (sliceRange (sliceBounds lo hi st l.length).1 (sliceBounds lo hi st l.length).2.1 (sliceBounds lo hi st l.length).2.2).filterMap (vs[·]?) := by
  simp [slicePick, i.length]
 rw [e]; exact i.places _
inductive EvO (G : Gd) (n : Nat) (env : Env) (m : Loc) (H : Hp) : Option Expr → Option Int → Prop
 | no : EvO G n env m H none none
 | yes {e : Expr} {i : Int} : EvP G n env m H e (.int i) → EvO G n env m H (some e) (some i)
section
variable {G : Gd} {n : Nat} {env : Env} {m : Loc} {H : Hp} {Q : D → Hp → Prop} {QB : Bool → Hp → Prop}
theorem EvO.run {x : Option Expr} {i : Option Int} (h : EvO G n env m H x i) (hL : H env.locals = none) {B : Heap} {A : Around} {s : Shared} (T : TopOk G B) (O : Ok A n) (S : Sat G B (H.set env.locals (.ns m)) s.heap) :
  wpAny (model G.prog G.w) A (evalPart x env) (fun v s' => IsPart v i ∧ Sat G B (H.set env.locals (.ns m)) s'.heap ∧ Step s s') (fun _ _ => False) s := by
 cases h with
 | no => rw [evalPart_none]; exact wpAny_pure ⟨.none, S, .refl _⟩
 | yes h =>
  rw [evalPart_some]
  refine wpAny_mono (h.h s hL B A T O S) ?_ fun _ _ z => z
  rintro v s' ⟨d, _, i, S', st', _, rfl, hL', rfl, rfl⟩
  (first | (replace i := i.inv; obtain rfl := i) | (replace i := i.inv; obtain ⟨_, rfl⟩ := i) | cases i)
  exact ⟨.int _ _, S', st'⟩
inductive SlQ (G : Gd) (n : Nat) (env : Env) (m : Loc) (lo hi step : Option Expr) (At : Hp → Addr → List D → Prop) (Q : D → Hp → Prop) (d : D) (H1 : Hp) : Prop
 | mk (l : Addr) (xs : List D) (a b c : Option Int) (e : d = .ref l) (hl : At H1 l xs) (ha : EvO G n env m H1 lo a) (hb : EvO G n env m H1 hi b) (hc : EvO G n env m H1 step c) (h0 : c ≠ some 0) (hz : xs.length ≤ sizeLine) (q : ∀ a', H1 a' = none → Q (.ref a') (H1.set a' (.lst (pickL xs a b c))))
theorem Bin.addL {a b l r} (ha : LstAt G H a l) (hb : LstAt G H b r) (hz : l.length + r.length ≤ sizeLine) (q : ∀ c, H c = none → Q (.ref c) (H.set c (.lst (l ++ r)))) : Bin G n H .Add (.ref a) (.ref b) Q := fun s v w i j B A T O S => by
 (first | (replace i := i.inv; obtain rfl := i) | (replace i := i.inv; obtain ⟨_, rfl⟩ := i) | cases i); (first | (replace j := j.inv; obtain rfl := j) | (replace j := j.inv; obtain ⟨_, rfl⟩ := j) | cases j)
 obtain ⟨vs, ⟨k, t⟩, i⟩ := ha B _ T S
 obtain ⟨ws, ⟨k', t'⟩, j⟩ := hb B _ T S
 have kp := push_keeps s.heap { cls := .type "list", data := .seq (vs.toArray ++ ws.toArray) }
 refine concat_meets ⟨_, t, rfl⟩ ⟨_, t', rfl⟩ noFill_list_add seq_list_add PySem.F.slot_list_add PySem.F.entry_list_add (PySem.F.args_list_add_2 _ _) (list_addW a b vs.toArray ws.toArray k k' none none #[] #[] (by simpa [i.length, j.length] using hz)) ⟨t, t', ?_⟩
 exact ⟨_, _, .ref _, S.new (x := .lst (l ++ r)) kp (Nat.le_refl _) ⟨vs ++ ws, by rw [show (vs ++ ws).toArray = vs.toArray ++ ws.toArray by simp]; exact ⟨_, Heap.get?_push_size _ rfl⟩, (i.append j).mono (.keeps kp)⟩, .hp (.keeps kp), q _ (S.fresh (Nat.le_refl _))⟩
theorem IsL.rep {h : Heap} {vs : List Value} {l : List D} (i : IsL h vs l) : ∀ k : Nat, IsL h (List.replicate k vs).flatten (List.replicate k l).flatten
 | 0 => .nil
 | k + 1 => by simp only [List.replicate_succ, List.flatten_cons]; exact i.append (i.rep k)
theorem Bin.mulL {a l x} (ha : LstAt G H a l) (hlo : 0 ≤ x) (hhi : x < 2 ^ 20) (hz : l.length ≤ 8) (q : ∀ c, H c = none → Q (.ref c) (H.set c (.lst (List.replicate x.toNat l).flatten))) : Bin G n H .Mult (.ref a) (.int x) Q := fun s v w i j B A T O S => by
 (first | (replace i := i.inv; obtain rfl := i) | (replace i := i.inv; obtain ⟨_, rfl⟩ := i) | cases i); replace j := j.inv; obtain ⟨u, rfl⟩ := j
 obtain ⟨vs, ⟨k, t⟩, i⟩ := ha B _ T S
 have hl : vs.toArray.size = l.length := by rw [List.size_toArray, i.length]
 have hm : vs.toArray.size * x.toNat ≤ 8 * 2 ^ 20 := Nat.mul_le_mul (by one_sign) (by one_sign)
 have hq : ¬ Builtin.List.listTooLong (vs.toArray.size * x.toNat) = true := by
  generalize vs.toArray.size * x.toNat = e at hm ⊢
  simp [Builtin.List.listTooLong, sizeLine]; one_sign
 refine wpAny_binaryOp_repeat_ref (T := "list") (U := "int") (by decide) ⟨_, t, rfl⟩ (fun s' => typeIs_int s' x u) noFill_list_mul F.fills_int_mul F.slot_int_rmul repeat_list F.slot_int_index.lookup
  (call_meets F.slot_int_rmul (typeIs_int s x u) F.entry_int_rmul (F.args_int_rmul_2 _ _) (lm_int_rmul_list_any x u a vs.toArray k none #[])
   ⟨t, rfl, ⟨_, t, rfl⟩, call_meets F.slot_list_mul ⟨_, t, rfl⟩ F.entry_list_mul (F.args_list_mul_2 _ _)
    (lm_list_mul_any a vs.toArray k none #[] x u (by simp [Builtin.List.listFitsIndex]; one_sign) (by one_sign) hq) ⟨t, ?_⟩⟩)
 rw [listMul_foldl_if]
 have kp := push_keeps s.heap { cls := .type "list", data := .seq (List.replicate x.toNat vs).flatten.toArray }
 exact ⟨_, _, .ref _, S.new (x := .lst (List.replicate x.toNat l).flatten) kp (Nat.le_refl _) ⟨_, ⟨_, Heap.get?_push_size _ rfl⟩, (i.rep _).mono (.keeps kp)⟩, .hp (.keeps kp), q _ (S.fresh (Nat.le_refl _))⟩
theorem wpAny_setItem_plain {prog : Program} {w : World} {A : Around} {E : Value → Shared → Prop} {s : Shared} {l : Addr} {items : Array Value} {k : Int} {t : Tok} {v : Value} {Q : Unit → Shared → Prop} (hl : s.heap.PlainList l items) (h0 : 0 ≤ k) (hfit : k < 2 ^ 63) (hn : k < items.size)
  (hQ : ∀ h', h'.PlainList l (items.setIfInBounds k.toNat v) → Heap.SameBut l s.heap h' → Q () { s with heap := h' }) : wpAny (model prog w) A (setItem (.ref l) (.int k t) v) Q E s := by
 obtain ⟨c, ho⟩ := hl
 have hT : s.TypeIs (.ref l) "list" := ⟨_, ho, rfl⟩
 have hj : k.toNat < items.size := by one_sign
 unfold setItem
 refine wpAny_holding (wpAny_bind (wpAny_sequenceKey hT (by decide) (wpAny_bind (wpAny_callSpecial?_slot (name := Str.ofString "__setitem__") hT slot_list_setitem (wpAny_call_entry slot_list_setitem hT entry_list_setitem ?_ (args_list_setitem _ _ _))))))
 show wpAny _ _ (Builtin.List.listSubscript? (.int k t) >>= _) _ _ s
 refine wpAny_bind (wpAny_listSubscript_int (fitsIndex_of h0 hfit) ?_)
 obtain ⟨j, rfl⟩ := Int.eq_ofNat_of_zero_le h0
 show wpAny _ _ ((seqItemAt l j >>= fun r => pure (r.map (j, ·))) >>= _) _ _ s
 refine wpAny_bind (wpAny_bind (wpAny_seqItemAt ho rfl (wpAny_pure ?_)))
 rw [show items[j]? = some items[j] from Array.getElem?_eq_getElem hj]
 show wpAny _ _ (setSeqItemAt l j v >>= _) _ _ s
 have fin : Q () { s with heap := s.heap.update l (Obj.mapSeq (·.setIfInBounds j v)) } := hQ _ ⟨_, Heap.get?_update_self _ ho rfl⟩ (Heap.SameBut.update ..)
 refine wpAny_bind (wpAny_setSeqItemAt ho rfl ?_)
 first
  | exact wpAny_bind (wpAny_pure (wpAny_pure ⟨.none, rfl, wpAny_pure fin⟩))
  | exact wpAny_pure ⟨.none, rfl, wpAny_pure fin⟩
theorem SetI.lst {a l d} {k : Int} {QH : Hp → Prop} (h : H a = some (.lst l)) (h0 : 0 ≤ k) (h1 : k < l.length) (hz : l.length < 2 ^ 62) (q : QH (H.set a (.lst (l.set k.toNat d)))) : SetI G n H (.ref a) (.int k) d QH := fun s v1 v2 v3 i j r B A T O S => by
 (first | (replace i := i.inv; obtain rfl := i) | (replace i := i.inv; obtain ⟨_, rfl⟩ := i) | cases i); (first | (replace j := j.inv; obtain rfl := j) | (replace j := j.inv; obtain ⟨_, rfl⟩ := j) | cases j)
 obtain ⟨_, vs, t, i⟩ := S.own _ _ h
 refine wpAny_setItem_plain t h0 (by one_sign) (by rw [List.size_toArray, i.length]; exact h1) fun h' hl hs => ?_
 have kp := S.tupBut h hs
 refine ⟨(), _, rfl, S.upd (x' := .lst (l.set k.toNat d)) h hs ⟨vs.set k.toNat v3, ?_, (i.mono kp).set (r.mono kp)⟩, .hp kp, q⟩
 simpa using hl
end
end
section
set_option tactic.hygienic false
section
variable {G : Gd} {n : Nat} {env : Env} {m : Loc} {H : Hp} {Q : D → Hp → Prop} {QB : Bool → Hp → Prop} {B : Heap} {h h' : Heap} {a b : Addr} {x y : X}
theorem Item.lstN {a l d} {k : Int} (ha : LstAt G H a l) (h0 : k < 0) (h1 : -(l.length : Int) ≤ k) (hx : l[(k + l.length).toNat]? = some d) (hz : l.length < 2 ^ 62) (q : Q d H) : Item G n H (.ref a) (.int k) Q := fun value slice s v w i j B A T O S => by
 (first | (replace i := i.inv; obtain rfl := i) | (replace i := i.inv; obtain ⟨_, rfl⟩ := i) | cases i); replace j := j.inv; obtain ⟨u, rfl⟩ := j
 obtain ⟨vs, t, i⟩ := ha B _ T S
 obtain ⟨v, e1, e2⟩ := i.get hx
 obtain ⟨ops, e⟩ := subscripted_false slice (.ref a) (.int k u)
 have hl : vs.toArray.size = l.length := by rw [List.size_toArray, i.length]
 exact tail_any t.isList.typeIs slot_list_getitem.lookup (wpAny_getItem_list_neg t.isList h0 (by one_sign) (by one_sign) (by rw [hl]; simpa using e1) ⟨_, _, e2, S, .refl _, q⟩) e
theorem Item.lstA {a l d} {k : Int} (ha : LstAt G H a l) (h0 : 0 ≤ k) (hx : l[k.toNat]? = some d) (hz : l.length < 2 ^ 62) (q : Q d H) : Item G n H (.ref a) (.int k) Q := fun value slice s v w i j B A T O S => by
 (first | (replace i := i.inv; obtain rfl := i) | (replace i := i.inv; obtain ⟨_, rfl⟩ := i) | cases i); replace j := j.inv; obtain ⟨u, rfl⟩ := j
 obtain ⟨vs, t, i⟩ := ha B _ T S
 obtain ⟨v, e1, e2⟩ := i.get hx
 have hlt : k.toNat < l.length := (List.getElem?_eq_some_iff.mp hx).1
 obtain ⟨ops, e⟩ := subscripted_false slice (.ref a) (.int k u)
 exact tail_any t.isList.typeIs slot_list_getitem.lookup (wpAny_getItem_list t.isList h0 (by one_sign) (by simpa using e1) ⟨_, _, e2, S, .refl _, q⟩) e
theorem Cal.listL {a l} (ha : LstAt G H a l) (hz : l.length ≤ sizeLine) (q : ∀ c, H c = none → Q (.ref c) (H.set c (.lst l))) : Cal G n H (.type "list") [.ref a] Q := fun s vs i B A T O S => by
 replace i := i.inv; obtain ⟨_, _, rfl, i, j⟩ := i
 (first | (replace i := i.inv; obtain rfl := i) | (replace i := i.inv; obtain ⟨_, rfl⟩ := i) | cases i); (first | (replace j := j.inv; obtain rfl := j) | (replace j := j.inv; obtain ⟨_, rfl⟩ := j) | cases j)
 obtain ⟨vs, ⟨k, t⟩, i⟩ := ha B _ T S
 refine call_list_seq a (.inl rfl) t rfl rfl (fun h' c' hk hn => ?_) (by rw [List.size_toArray, i.length]; exact hz)
 exact ⟨_, _, .ref _, S.new (x := .lst l) hk (Nat.le_refl _) ⟨vs, ⟨c', hn⟩, i.mono (.keeps hk)⟩, .hp (.keeps hk), q _ (S.fresh (Nat.le_refl _))⟩
theorem Cal.intI {i} (q : Q (.int i) H) : Cal G n H (.type "int") [.int i] Q := fun s vs ii B A T O S => by
 replace ii := ii.inv; obtain ⟨_, _, rfl, i, j⟩ := ii
 (first | (replace j := j.inv; obtain rfl := j) | (replace j := j.inv; obtain ⟨_, rfl⟩ := j) | cases j)
 replace i := i.inv; obtain ⟨t, rfl⟩ := i; exact call_int_int ⟨_, _, .int _ _, S, .refl _, q⟩
noncomputable def isBool : D → Option Bool
 | .bool _ => some true
 | .int _ => some false
 | .str _ => some false
 | _ => none
theorem Cal.isB {d b} (hb : isBool d = some b) (q : Q (.bool b) H) : Cal G n H (.builtin "isinstance") [d, .ty "bool"] Q := fun s vs i B A T O S => by
 replace i := i.inv; obtain ⟨_, _, rfl, i, j⟩ := i
 replace j := j.inv; obtain ⟨_, _, rfl, j, k⟩ := j
 (first | (replace j := j.inv; obtain rfl := j) | (replace j := j.inv; obtain ⟨_, rfl⟩ := j) | cases j); (first | (replace k := k.inv; obtain rfl := k) | (replace k := k.inv; obtain ⟨_, rfl⟩ := k) | cases k)
 cases i <;> first | (cases hb; done) | skip
 ·cases hb; exact PySem.IsiPair.bool_bool ⟨_, _, .bool _, S, .refl _, q⟩
 ·cases hb; exact PySem.IsiPair.int_bool ⟨_, _, .bool _, S, .tok, q⟩
 ·cases hb; exact PySem.IsiPair.str_bool ⟨_, _, .bool _, S, .tok, q⟩
theorem Sat.drop2 (S : Sat G B ((H.set a x).set b y) h) (ha : H a = none) (hb : H b = none) (he : ∀ c o, c ≠ b → c ≠ a → h.get? c = some o → h'.get? c = some o) : Sat G B H h' ∧ TupKeep h h' := by
 by_cases z : a = b
 ·subst z
  rw [Hp.set_set] at S
  exact S.dropBut ha fun c o q e => he c o q q e
 have Sa := S.own a x (by rw [Hp.set_ne _ _ z, Hp.set_self])
 have Sb := S.own b y (Hp.set_self ..)
 obtain ⟨oa, a1, a2⟩ := Sa.2.root
 obtain ⟨ob, b1, b2⟩ := Sb.2.root
 have k : TupKeep h h' := fun c o e q => by
  by_cases z1 : c = b
  ·subst z1; rw [b1] at e; cases e; rw [b2] at q; cases q
  ·by_cases z2 : c = a
   ·subst z2; rw [a1] at e; cases e; rw [a2] at q; cases q
   ·exact he c o z1 z2 e
 have up : ∀ c u, H c = some u → c ≠ b ∧ c ≠ a ∧ ((H.set a x).set b y) c = some u := fun c u e => by
  have n1 : c ≠ b := fun z => by subst z; rw [hb] at e; cases e
  have n2 : c ≠ a := fun z => by subst z; rw [ha] at e; cases e
  exact ⟨n1, n2, by rw [Hp.set_ne _ _ n1, Hp.set_ne _ _ n2]; exact e⟩
 refine ⟨⟨fun c o e => he c o (fun z => by subst z; rw [Sb.1] at e; cases e) (fun z => by subst z; rw [Sa.1] at e; cases e) (S.keep c o e), fun c u e => ?_, S.low, fun c u e => S.off c u (up c u e).2.2⟩, k⟩
 obtain ⟨n1, n2, e'⟩ := up c u e
 exact ⟨(S.own c u e').1, (S.own c u e').2.move k fun o q => he c o n1 n2 q⟩
theorem Sat.add (S : Sat G B H h) (hB : B.get? a = none) (ho : (a == sysModules) = false) (r : Rep G.w.params h a x) : Sat G B (H.set a x) h :=
 ⟨S.keep, fun c u e => by
  by_cases z : c = a
  ·subst z; rw [Hp.set_self] at e; cases e; exact ⟨hB, r⟩
  ·rw [Hp.set_ne _ _ z] at e; exact S.own c u e, S.low, fun c u e => by
  by_cases z : c = a
  ·subst z; exact ho
  ·rw [Hp.set_ne _ _ z] at e; exact S.off c u e⟩
end
end
section
set_option tactic.hygienic false
section
variable {prog : Program} {w : World} {A : Around} {E : Value → Shared → Prop} {s : Shared}
end
end
section
set_option tactic.hygienic false
noncomputable def enuL (ds : List D) : List D := ds.zipIdx.map fun p => .tup [.int (p.2 : Nat), p.1]
theorem enuL_len (ds : List D) : (enuL ds).length = ds.length := by simp [enuL]
theorem enuL_get {ds : List D} {k : Nat} {d : D} (h : ds[k]? = some d) : (enuL ds)[k]? = some (.tup [.int k, d]) := by
 simp [enuL, h]
section
variable {G : Gd} {n : Nat} {H : Hp} {Q : D → Hp → Prop}
noncomputable def putE (it e : Addr) (E : Nat → X) (k : Nat) (H : Hp) : Hp := (H.set it (E k)).set e (enuX it k)
noncomputable def Inn (G : Gd) (it e : Addr) (ds : List D) (E : Nat → X) (ok : Hp → Prop) : Prop := ∀ {H : Hp} {B : Heap} {A : Around} {s : Shared} {k : Nat}, ok H → H it = none → H e = none → it ≠ e → A.handled = none → Sat G B (putE it e E k H) s.heap →
 ∃ fp P St, Draws G.prog G.w A.in1 it fp ds.length P St ∧ it ∈ fp ∧ e ∉ fp ∧ St k s.heap ∧ (∀ x, P k x → ∃ d, ds[k]? = some d ∧ Is s.heap x d) ∧ (∀ h', St (k + 1) h' → TupKeep s.heap h' → Rep G.w.params h' it (E (k + 1)))
theorem enuX_rep {P : Params} {h : Heap} {e it : Addr} {k : Nat} {old : Value} (he : IsEnum h e it k old) : Rep P h e (enuX it k) := ⟨_, he, rfl, old, rfl⟩
set_option tactic.hygienic true in
noncomputable def srcE (it e : Addr) (ds : List D) (E : Nat → X) (ok : Hp → Prop) (hie : it ≠ e) (okSet : ∀ {H : Hp} {a : Addr} {x : X}, H a = none → ok H → ok (H.set a x)) (inn : Inn G it e ds E ok) : Src G where
 it := e
 tgt := isTp
 items := enuL ds
 put := putE it e E
 fresh := fun H => H it = none ∧ H e = none
 ok := ok
 frame := fun {α β R n H s t Q k} h hf => by
  have h2 := At.frame (L := e) (x := enuX it k) (by rw [Hp.set_ne _ _ (Ne.symm hie)]; exact hf.2) (At.frame (L := it) (x := E k) hf.1 h)
  refine h2.mono ?_
  rintro d _ ⟨_, rfl, e1, H'', rfl, e2, q⟩
  rw [Hp.set_ne _ _ (Ne.symm hie)] at e1
  exact ⟨H'', rfl, ⟨e2, e1⟩, q⟩
 comm := fun {k k' H H' a x} hf hf' hp => by
  have n1 : a ≠ e := fun z => by subst z; unfold putE at hp; rw [Hp.set_self] at hp; cases hp
  have n2 : a ≠ it := fun z => by subst z; unfold putE at hp; rw [Hp.set_ne _ _ n1, Hp.set_self] at hp; cases hp
  refine ⟨⟨by rw [Hp.set_ne _ _ (Ne.symm n2)]; exact hf.1, by rw [Hp.set_ne _ _ (Ne.symm n1)]; exact hf.2⟩, ?_, ?_⟩
  ·unfold putE; rw [Hp.set_comm H _ _ n2, Hp.set_comm _ _ _ n1]
  ·unfold putE; rw [Hp.set_ne _ _ n1, Hp.set_ne _ _ n2]
 self := fun {k H B A s} hf S => by
  obtain ⟨o, h1, _, old, h2⟩ := raw_at S (Hp.set_self ..)
  subst h2
  exact wpAny_pyIter_enum h1 ⟨rfl, rfl⟩
 sub := fun {k H a x} hf ha => by
  have n1 : a ≠ e := fun z => by subst z; rw [hf.2] at ha; cases ha
  have n2 : a ≠ it := fun z => by subst z; rw [hf.1] at ha; cases ha
  unfold putE; rw [Hp.set_ne _ _ n1, Hp.set_ne _ _ n2]; exact ha
 okSet := okSet
 head := fun {target k d H B A s} ht hi hf hok T O S => by
  obtain ⟨fp, P, St, Dr, m1, m2, st, hP, hR⟩ := inn hok hf.1 hf.2 hie O.handled S
  have hk : k < ds.length := by have := (List.getElem?_eq_some_iff.mp hi).1; rwa [enuL_len] at this
  obtain ⟨o, h1, _, old, h2⟩ := raw_at S (Hp.set_self ..)
  subst h2
  have Wk := WalksT.enumerateD Dr e (Ne.symm hie) m2 m1
  obtain ⟨elts, kk, pos, rfl⟩ := isTp_is ht
  refine Wk.item k s _ _ hk ⟨⟨old, h1⟩, st⟩ fun T vals h' tk hPt hle hTup hMid hkeep => ⟨_, rfl, ?_⟩
  refine Wk.go elts kk pos k T _ _ _ hMid fun h'' hSt hk'' => ?_
  have keep : ∀ c o, c ≠ e → c ≠ it → s.heap.get? c = some o → h''.get? c = some o := fun c o n1 n2 q => hk'' c o (by simp [n1, n2]) (hkeep c o (by simp [n1, n2]) q)
  obtain ⟨S1, kp⟩ := S.drop2 hf.1 hf.2 keep
  obtain ⟨⟨old', he'⟩, st'⟩ := hSt
  have bi := (S.own it (E k) (by unfold putE; rw [Hp.set_ne _ _ hie, Hp.set_self])).1
  have be := (S.own e _ (Hp.set_self ..)).1
  have S2 := (S1.add bi (S.off it _ (by unfold putE; rw [Hp.set_ne _ _ hie, Hp.set_self])) (hR h'' st' kp)).add be (S.off e _ (Hp.set_self ..)) (enuX_rep he')
  obtain ⟨t, x, hx, rfl⟩ := hPt
  obtain ⟨d', hd', ix⟩ := hP x hx
  rw [enuL_get hd'] at hi; cases hi
  obtain ⟨ot, t1, t2, c, t3⟩ := hTup
  have hT'' : h''.get? T = some ot := hk'' T ot (Wk.apart k T h' hMid) t1
  exact ⟨.tup (vs := [.int k t, x]) ⟨ot, hT'', t2, c, t3⟩ (.cons (.int _ _) (.cons (ix.mono kp) .nil)), S2, .mk' kp⟩
 done := fun {k H B A s} hk hf hok T O S => by
  obtain ⟨fp, P, St, Dr, m1, m2, st, hP, hR⟩ := inn hok hf.1 hf.2 hie O.handled S
  rw [enuL_len] at hk
  subst hk
  obtain ⟨o, h1, _, old, h2⟩ := raw_at S (Hp.set_self ..)
  subst h2
  have Wk := WalksT.enumerateD Dr e (Ne.symm hie) m2 m1
  refine Wk.done s _ _ ⟨⟨old, h1⟩, st⟩ fun h' tk hkeep => ?_
  obtain ⟨S1, kp⟩ := S.drop2 hf.1 hf.2 fun c o n1 n2 q => hkeep c o (by simp [n1, n2]) q
  exact ⟨rfl, S1, .mk' kp⟩
theorem inn_list {it e l : Addr} {ds : List D} : Inn G it e ds (fun k => litX l k) fun H => H l = some (.lst ds) := fun {H B A s k} hok h1 h2 hie hh S => by
 replace hok : H l = some (.lst ds) := hok
 have n1 : l ≠ it := fun z => by subst z; rw [h1] at hok; cases hok
 have n2 : l ≠ e := fun z => by subst z; rw [h2] at hok; cases hok
 obtain ⟨o, a1, _, a2, a3⟩ := raw_at S (a := it) (by unfold putE; rw [Hp.set_ne _ _ hie]; exact Hp.set_self ..)
 obtain ⟨_, vs, t, i⟩ := S.own l _ (by unfold putE; rw [Hp.set_ne _ _ n2, Hp.set_ne _ _ n1]; exact hok)
 have hn : vs.toArray.size = ds.length := by rw [List.size_toArray, i.length]
 refine ⟨[it, l], fun i v => vs.toArray[i]? = some v, fun i h => h.IsListIter it l i ∧ h.IsList l vs.toArray, hn ▸ Draws.list (A := A.in1) hh it l n1 vs.toArray, by simp, by simp [Ne.symm hie, Ne.symm n2], ⟨⟨o, a1, a2, a3⟩, t.isList⟩, fun x hx => ?_, fun h' st kp => ?_⟩
 ·have hx' : vs[k]? = some x := by simpa using hx
  have hlt : k < ds.length := by rw [← i.length]; exact (List.getElem?_eq_some_iff.mp hx').1
  obtain ⟨v, b1, b2⟩ := i.get (List.getElem?_eq_getElem hlt)
  rw [hx'] at b1; cases b1
  exact ⟨_, List.getElem?_eq_getElem hlt, b2⟩
 ·obtain ⟨⟨o', b1, b2, b3⟩, _⟩ := st
  exact ⟨o', b1, by unfold imm; rw [b3, b2]; exact (by decide : (Value.type "list_iterator" == Value.type "range") = false), b2, b3⟩
theorem Cal.enumL {l ds} (hl : LstAt G H l ds) (q : ∀ it e, H it = none → H e = none → it ≠ e → Q (.ref e) (putE it e (fun k => litX l k) 0 H)) : Cal G n H (.type "enumerate") [.ref l] Q := fun s vs i B A T O S => by
 replace i := i.inv; obtain ⟨_, _, rfl, i, j⟩ := i
 (first | (replace i := i.inv; obtain rfl := i) | (replace i := i.inv; obtain ⟨_, rfl⟩ := i) | cases i); (first | (replace j := j.inv; obtain rfl := j) | (replace j := j.inv; obtain ⟨_, rfl⟩ := j) | cases j)
 obtain ⟨vs, t, i⟩ := hl B _ T S
 refine call_enumerate_list t.isList fun h' he hit hz hk => ?_
 have f1 := S.fresh (Nat.le_refl _)
 have f2 := S.fresh (Nat.le_succ s.heap.objs.size)
 obtain ⟨o, a1, a2, a3⟩ := hit
 have S1 := S.new (x := litX l 0) hk (Nat.le_refl _) ⟨o, a1, by unfold imm; rw [a3, a2]; exact (by decide : (Value.type "list_iterator" == Value.type "range") = false), a2, a3⟩
 have Sh := S.keeps hk
 have S2 := S1.add (a := s.heap.objs.size + 1) (x := enuX s.heap.objs.size 0) (S.baseFresh (Nat.le_succ _)) (beq_eq_false_iff_ne.mpr fun z => by
  obtain ⟨c, o, h1, h2⟩ := S.low
  have := Heap.lt_size (S.keep _ _ h2)
  have z' : s.heap.objs.size + 1 = sysModules := z
  have y : s.heap.objs.size + 1 < s.heap.objs.size := z' ▸ Nat.lt_trans h1 this
  exact absurd y (Nat.not_lt.mpr (Nat.le_succ _))) (enuX_rep he)
 exact ⟨_, _, .ref _, S2, .hp (.keeps hk), q _ _ f1 f2 (Nat.ne_of_lt (Nat.lt_succ_self _))⟩
theorem Itr.enu {it e : Addr} {ds : List D} {E : Nat → X} {ok : Hp → Prop} (hie : it ≠ e) (h1 : H it = none) (h2 : H e = none) (okSet : ∀ {H : Hp} {a : Addr} {x : X}, H a = none → ok H → ok (H.set a x)) (inn : Inn G it e ds E ok) : Itr G n (putE it e E 0 H) (.ref e) isTp H (enuL ds) ok := by
 intro s v i B A T O S
 (first | (replace i := i.inv; obtain rfl := i) | (replace i := i.inv; obtain ⟨_, rfl⟩ := i) | cases i)
 obtain ⟨o, a, _, old, b⟩ := raw_at S (Hp.set_self ..)
 subst b
 exact wpAny_pyIter_enum a ⟨srcE it e ds E ok hie okSet inn, _, rfl, S, .refl _, rfl, rfl, rfl, ⟨h1, h2⟩, rfl⟩
theorem ok_list {l : Addr} {ds : List D} {H : Hp} {a : Addr} {x : X} (ha : H a = none) (h : H l = some (.lst ds)) : (H.set a x) l = some (.lst ds) := by
 rw [Hp.set_ne _ _ (fun z => by subst z; rw [ha] at h; cases h)]; exact h
theorem Itr.enL {it e l : Addr} {ds : List D} (hie : it ≠ e) (h1 : H it = none) (h2 : H e = none) : Itr G n (putE it e (fun k => litX l k) 0 H) (.ref e) isTp H (enuL ds) fun H => H l = some (.lst ds) := Itr.enu hie h1 h2 ok_list inn_list
end
end
section
set_option tactic.hygienic false
theorem stored_new {kvs : List (Ky × Value)} {k : Ky} {v : Value} (h : ∀ x ∈ kvs, x.1 ≠ k) : PySem.stored kvs k v = kvs ++ [(k, v)] := by
 unfold PySem.stored
 rw [if_neg]
 rw [Bool.not_eq_true, List.any_eq_false]
 intro x hx; simpa using h x hx
theorem merged_nodup : ∀ (kvs acc : List (Ky × Value)), ((acc ++ kvs).map (·.1)).Nodup → PySem.merged acc kvs = acc ++ kvs
 | [], acc, _ => by simp [PySem.merged]
 | (k, v) :: r, acc, h => by
  have hk : ∀ x ∈ acc, x.1 ≠ k := fun x hx e => by
   rw [List.map_append, List.nodup_append] at h
   exact h.2.2 x.1 (List.mem_map_of_mem hx) k (by simp) e
  have ih := merged_nodup r (acc ++ [(k, v)]) (by simpa using h)
  show PySem.merged (PySem.stored acc k v) r = _
  rw [stored_new hk, ih]; simp
section
variable {G : Gd} {n : Nat} {env : Env} {m : Loc} {H : Hp} {Q : D → Hp → Prop} {QD : List (D × D) → Hp → Prop}
noncomputable abbrev RD (G : Gd) (h : Heap) (vs : List (Value × Value)) (l : List (D × D)) : Prop := ∃ kvs, Carries (mx G.prog G.w) vs kvs ∧ KvL h kvs l
noncomputable def EvD (G : Gd) (n : Nat) (env : Env) (m : Loc) (H : Hp) (pos : Pos) (ks : List (Option Expr)) (vs : List Expr) (Q : List (D × D) → Hp → Prop) : Prop :=
 ∀ s, H env.locals = none → At (RD G) G n (H.set env.locals (.ns m)) s (evalPairs (pairTrees ks vs env pos)) (FQ env.locals m Q)
theorem EvD.nil {pos} (q : QD [] H) : EvD G n env m H pos [] [] QD := fun s hL B A T O S => evalPairs_nil ⟨_, _, ⟨[], trivial, .nil⟩, S, .refl _, H, rfl, hL, q⟩
theorem EvD.cons {k v ks vs pos} (ky : Ky) (h : Ev G n env m H k fun dk H1 => dk = kd ky ∧ Ev G n env m H1 v fun dv H2 => EvD G n env m H2 pos ks vs fun l H3 => QD ((kd ky, dv) :: l) H3) : EvD G n env m H pos (some k :: ks) (v :: vs) QD := fun s hL B A T O S => by
 refine evalPairs_cons (wpAny_mono (h s hL B A T O S) ?_ fun _ _ z => z)
 rintro v1 s1 ⟨_, _, i1, S1, st1, H1, rfl, hL1, rfl, h1⟩
 refine wpAny_bind (wpAny_mono (h1 s1 hL1 B A T O S1) ?_ fun _ _ z => z)
 rintro v2 s2 ⟨d2, _, i2, S2, st2, H2, rfl, hL2, h2⟩
 refine wpAny_bind (wpAny_standAt (wpAny_pure ?_))
 refine wpAny_mono (h2 s2 hL2 B A T O S2) ?_ fun _ _ z => z
 rintro vs s3 ⟨l, _, ⟨kvs, c, kv⟩, S3, st3, H3, rfl, hL3, q⟩
 exact ⟨_, _, ⟨(ky, v2) :: kvs, ⟨is_kis i1, rfl, c⟩, .cons (i2.mono st3.tup) kv⟩, S3, (st1.trans st2).trans st3, H3, rfl, hL3, q⟩
theorem Ev.dict0 {pos} (q : ∀ a, H a = none → Q (.ref a) (H.set a (.dct []))) : Ev G n env m H (.Dict [] [] pos) Q := fun s hL B A T O S => by
 refine wpAny_Dict_empty ?_
 have kp := push_keeps s.heap { cls := .type "dict", data := .dict #[] }
 have hf := S.fresh (Nat.le_refl _)
 have ne : s.heap.objs.size ≠ env.locals := fun z => by rw [z, Hp.set_self] at hf; cases hf
 rw [Hp.set_ne _ _ ne] at hf
 refine ⟨_, _, .ref _, S.new (x := .dct []) kp (Nat.le_refl _) ⟨_, [], 0, Heap.get?_push_size _ rfl, ⟨rfl, rfl, rfl⟩, rfl, .nil⟩, .hp (.keeps kp), H.set s.heap.objs.size (.dct []), Hp.set_comm _ _ _ (Ne.symm ne), ?_, q _ hf⟩
 rw [Hp.set_ne _ _ (Ne.symm ne)]; exact hL
theorem Ev.dict {keys values pos} (h : EvD G n env m H pos keys values fun l H1 => knodB l = true ∧ ∀ a, H1 a = none → Q (.ref a) (H1.set a (.dct l)))
  (hall : autoParam (keys.all (·.isSome) = true) aR) (hl : autoParam (keys.length = values.length) aR) (h0 : keys ≠ [] := by simp) (hlen : autoParam (keys.length ≤ 15) aD) : Ev G n env m H (.Dict keys values pos) Q := fun s hL B A T O S => by
 refine wpAny_Dict_walk (knd := mx G.prog G.w) hall hl h0 hlen ?_
 have kp := push_keeps s.heap { cls := .type "dict", data := .dict #[] }
 have hf := S.fresh (Nat.le_refl _)
 have S1 := S.new (x := .dct []) kp (Nat.le_refl _) ⟨_, [], 0, Heap.get?_push_size _ rfl, ⟨rfl, rfl, rfl⟩, rfl, .nil⟩
 generalize s.heap.objs.size = a at S1 hf ⊢
 have ne : a ≠ env.locals := fun z => by rw [z, Hp.set_self] at hf; cases hf
 have st1 : Step s { s with heap := s.heap.push { cls := .type "dict", data := .dict #[] } } := .hp (.keeps kp)
 refine wpAny_mono (At.frame hf (h _ hL) B A T O S1) ?_ fun _ _ z => z
 rintro vs s2 ⟨l, _, ⟨kvs, c, kv⟩, S2, st2, _, rfl, ha, H2, rfl, hL2, z, q⟩
 obtain ⟨o, es, k, g1, g2, g3, g4⟩ := (S2.own a _ (Hp.set_self ..)).2
 cases g4
 refine ⟨kvs, c, ⟨o, #[], k, g1, g2, g3, fun e he => by simp at he, .nil, by simp⟩, fun h' hd hs => ?_⟩
 rw [merged_nodup kvs [] (by simpa using kv.nodup z), List.nil_append] at hd
 obtain ⟨o', es', c', f1, f2, f3, f4, f5, f6⟩ := hd
 have kp2 := S2.tupBut (Hp.set_self ..) hs
 have S3 := S2.upd (x' := .dct l) (Hp.set_self ..) hs ⟨o', es'.toList, c', f1, f2, by simpa using f3, KvL.ent (fun e he => f4 e (by simpa using he)) f5 (kv.mono kp2)⟩
 rw [Hp.set_set, Hp.set_comm _ _ _ (Ne.symm ne)] at S3
 refine ⟨_, _, .ref a, S3, (st1.trans st2).trans (.mk' kp2), _, rfl, by rw [Hp.set_ne _ _ (Ne.symm ne)]; exact hL2, q a ?_⟩
 rw [Hp.set_ne _ _ ne] at ha; exact ha
end
end
section
set_option tactic.hygienic false
theorem lookup_append' {α : Type} (x : Str) : ∀ (l r : List (Str × α)), (l ++ r).lookup x = (l.lookup x).or (r.lookup x)
 | [], r => by simp
 | (k, v) :: l, r => by
  rw [List.cons_append, List.lookup_cons, List.lookup_cons]
  cases x == k with
  | true => simp
  | false => exact lookup_append' x l r
theorem bindL_eq (kd : Str → Option NameKind) (x : Str) : ∀ (b : List (Str × Value)) (m : Str → Option Value), bindL kd b m x = if kd x = some .local then (b.reverse.lookup x).or (m x) else m x
 | [], m => by simp [bindL]
 | (k, v) :: r, m => by
  unfold bindL
  rw [bindL_eq kd x r, List.reverse_cons, lookup_append']
  by_cases h : kd x = some .local
  ·simp only [h, if_true]
   by_cases hk : x = k
   ·subst hk; simp [h, List.lookup_cons]
   ·have e : (x == k) = false := by simpa using hk
    simp only [List.lookup_cons, e, List.lookup_nil, Option.or_none]
    split <;> simp [hk]
  ·simp only [h, if_false]
   by_cases hk : x = k
   ·subst hk; simp [h]
   ·split <;> simp [hk]
theorem bindC_eq (kd : Str → Option NameKind) (x : Str) : ∀ (b : List (Str × Value)) (m : Str → Option Value), bindC kd b m x = if kd x = some .local then m x else (b.reverse.lookup x).or (m x)
 | [], m => by simp [bindC]
 | (k, v) :: r, m => by
  unfold bindC
  rw [bindC_eq kd x r, List.reverse_cons, lookup_append']
  by_cases h : kd x = some .local
  ·simp only [h, if_true]
   by_cases hk : x = k
   ·subst hk; simp [h]
   ·split <;> simp [hk]
  ·simp only [h, if_false]
   by_cases hk : x = k
   ·subst hk; simp [h, List.lookup_cons]
   ·have e : (x == k) = false := by simpa using hk
    simp only [List.lookup_cons, e, List.lookup_nil, Option.or_none]
    split <;> simp [hk]
noncomputable def locC (names : List (Str × NameKind)) (ks : List Str) (es : List D) : Loc := fun x => match names.lookup x with | some .local => locOf ks es x | _ => none
noncomputable def setCells (ks : List Str) (es : List D) (cs : List (Str × Addr)) (H : Hp) : Hp := cs.foldr (fun p H => H.set p.2 (.cel (locOf ks es p.1))) H
section
variable {G : Gd} {n : Nat} {H : Hp} {Q : D → Hp → Prop}
theorem Sat.cells {B : Heap} {h₀ h : Heap} {L : Addr} {ks : List Str} {es : List D} (S₀ : Sat G B H h₀) (hL : h₀.objs.size ≤ L) (k : ∀ b o, h₀.get? b = some o → h.get? b = some o) {cm : Str → Option Value} : ∀ (cs : List (Str × Addr)), (∀ p ∈ cs, L < p.2 ∧ h.IsCell p.2 (cm p.1) ∧ ∀ d, locOf ks es p.1 = some d → ∃ v, cm p.1 = some v ∧ Is h v d) → Sat G B (setCells ks es cs H) h
 | [], _ => S₀.keeps k
 | p :: r, hp => by
  have ih := Sat.cells S₀ hL k r fun q hq => hp q (.tail _ hq)
  obtain ⟨h1, h2, h3⟩ := hp p (.head _)
  refine ih.add (S₀.baseFresh (Nat.le_of_lt (Nat.lt_of_le_of_lt hL h1))) (beq_eq_false_iff_ne.mpr fun z => ?_) ⟨_, h2, h3⟩
  obtain ⟨c, o, l1, l2⟩ := S₀.low
  have := Heap.lt_size (S₀.keep _ _ l2)
  have y : p.2 < p.2 := by
   have a : p.2 < h₀.objs.size := by rw [z]; exact Nat.lt_trans l1 this
   exact Nat.lt_trans (Nat.lt_of_lt_of_le a hL) h1
  exact Nat.lt_irrefl _ y
set_option tactic.hygienic true in
theorem CalC.fnC {f : Addr} {name qual : Str} {params : Arguments} {body : List Stmt} {scope : Scope} {dV kV doc pm cdv ct oc : Value} {an od : Option Addr} {osl : Array (Option Value)} {ds : List D} (ks : List Str)
  (ho : G.K.lookup f = some ⟨oc, od, .func (fnOf name qual params body scope dV kV doc pm an cdv ct), osl⟩) (hcd : codeIn G.K cdv qual = true)
  (hbind : ∀ vs : List Value, vs.length = ds.length → bindArgs (fnOf name qual params body scope dV kV doc pm an cdv ct) ⟨vs, []⟩ = pure (ks.zip vs))
  (h : ∀ L, (∀ a, L ≤ a → H a = none) → Ex G n (envX qual scope L f cdv (cellsFrom (L + 1) scope.names [])) (locC scope.names ks ds) (setCells ks ds (cellsFrom (L + 1) scope.names []) H) body fun fl _ H' => Q (retOf fl) H')
  (hks : autoParam (∀ k ∈ ks, scope.names.lookup k = some .local ∨ scope.names.lookup k = some .cell) aD)
  (hlk : ∀ L, ∀ p ∈ cellsFrom (L + 1) scope.names [], (cellsFrom (L + 1) scope.names []).lookup p.1 = some p.2 ∧ scope.names.lookup p.1 = some .cell)
  (hco : autoParam (scope.isCoroutine = false) aR) (hgen : autoParam (scope.isGenerator = false) aR) (hk : autoParam (scope.kind = .function) aR) : CalC G (n + 1) H (.ref f) ds Q := by
 intro s vs i B A T O S
 have hroom : A.depth < recursionLimit := by have := O.depth; one_sign
 refine codeAny_call_cells (fd := fnOf name qual params body scope dV kV doc pm an cdv ct) (body := body) hroom (T.k.keeps S.keep _ _ ho) rfl (T.t.nolimit.keeps S.keep) (codeRec_of (T.k.keeps S.keep) hcd) rfl (hbind vs i.length) rfl
  (fun x hx => ?_) (fun s₁ X => ?_) hco hgen hk
 ·rcases hks x.1 (List.of_mem_zip hx).1 with h1 | h1
  ·exact .inl h1
  ·exact .inr ⟨h1, cellsFrom_some _ _ _ (.inl h1)⟩
 ·generalize hLe : s.heap.objs.size = L at X ⊢
  obtain ⟨⟨⟨h₁, tk, rfl⟩, hns, hkeep, hfr⟩, hcell, hap, hab⟩ := X
  have kp : TupKeep s.heap h₁ := .keeps hkeep
  have low : ∀ a, L ≤ a → H a = none := fun a ha => S.fresh (by rw [hLe]; exact ha)
  have S1 : Sat G B (setCells ks ds (cellsFrom (L + 1) scope.names []) H) h₁ := by
   refine Sat.cells S (Nat.le_of_eq hLe) hkeep (cm := fun x => (((ks.zip vs).reverse.lookup x).or none)) _ fun p hp => ?_
   have hc := hcell p.1 p.2 (hlk L p hp).1
   rw [bindC_eq, if_neg (by show ¬ (scope.names.lookup p.1 = _); rw [(hlk L p hp).2]; decide)] at hc
   exact ⟨hab p.1 p.2 hp, hc, fun d hd => let ⟨v, a, b⟩ := locOf_rep i hd; ⟨v, by rw [a]; rfl, b.mono kp⟩⟩
  have cL : (setCells ks ds (cellsFrom (L + 1) scope.names []) H) L = none := by
   have : ∀ cs : List (Str × Addr), (∀ p ∈ cs, L < p.2) → (setCells ks ds cs H) L = none := fun cs => by
    induction cs with
    | nil => exact fun _ => low L (Nat.le_refl _)
    | cons p r ih => exact fun hp => (Hp.set_ne _ _ (Nat.ne_of_lt (hp p (.head _)))).trans (ih fun q hq => hp q (.tail _ hq))
   exact this _ fun p hp => hab p.1 p.2 hp
  have S2 : Sat G B ((setCells ks ds (cellsFrom (L + 1) scope.names []) H).set L (.ns (locC scope.names ks ds))) h₁ := by
   refine S1.add (S.baseFresh (Nat.le_of_eq hLe)) (beq_eq_false_iff_ne.mpr fun z => ?_) ⟨_, hns, fun x d e => ?_⟩
   ·obtain ⟨c, o, l1, l2⟩ := S.low
    have := Heap.lt_size (S.keep _ _ l2)
    have y : L < L := by
     have a : L < s.heap.objs.size := by rw [show L = sysModules from z]; exact Nat.lt_trans l1 this
     rw [hLe] at a; exact a
    exact Nat.lt_irrefl _ y
   ·unfold locC at e
    split at e
    ·rename_i hl
     obtain ⟨v, a, b⟩ := locOf_rep i e
     refine ⟨v, ?_, b.mono kp⟩
     rw [bindL_eq, a]; exact if_pos hl
    ·cases e
  have st1 : Step s { s with heap := h₁, toks := tk } := .mk' kp
  refine wpAny_mono (h L low _ cL B _ T (O.deeper _) S2) ?_ fun _ _ z => z.elim
  rintro f' s' ⟨fl, _, i', S', st', m', H', rfl, hL', q⟩
  have fin : ∀ {v d}, Is s'.heap v d → Q d H' → ∃ v' d H', (Except.ok (Flow.ret v) : Result) = .ok (.ret v') ∧ Is s'.heap v' d ∧ Sat G B H' s'.heap ∧ Step s s' ∧ Q d H' := fun {v d} a b =>
   ⟨v, d, H', rfl, a, S'.drop hL', st1.trans st', b⟩
  cases i' with
  | next => exact fin .none q
  | brk => exact fin .none q
  | cont => exact fin .none q
  | ret a => exact fin a q
end
end
section
set_option tactic.hygienic false
noncomputable def dOf : Value → D
 | .str s _ => .str s
 | .int i _ => .int i
 | .bool b => .bool b
 | _ => .none
noncomputable def isS : Value → Bool
 | .str _ _ => true
 | .int _ _ => true
 | .bool _ => true
 | .none => true
 | _ => false
theorem isL_of {h : Heap} : ∀ {vs : List Value}, vs.all isS = true → IsL h vs (vs.map dOf)
 | [], _ => .nil
 | v :: vs, e => by
  rw [List.all_cons, Bool.and_eq_true] at e
  refine .cons ?_ (isL_of e.2)
  cases v <;> first | (cases e.1; done) | constructor
inductive IsTopL (G : Gd) : List Value → List D → Prop
 | nil : IsTopL G [] []
 | cons {v : Value} {d : D} {vs : List Value} {ds : List D} : IsTop G v d → IsTopL G vs ds → IsTopL G (v :: vs) (d :: ds)
section
variable {G : Gd} {n : Nat} {env : Env} {m : Loc} {H : Hp} {Q : D → Hp → Prop}
theorem IsTopL.is {B : Heap} (T : TopOk G B) {vs : List Value} {ds : List D} (x : IsTopL G vs ds) : IsL B vs ds := by
 induction x with
 | nil => exact .nil
 | cons a b ih => exact .cons (a B T) ih
theorem IsTop.tup {a : Addr} {dd : Option Addr} {vs : List Value} {k : Nat} {sl : Array (Option Value)} (ho : G.K.lookup a = some ⟨.type "tuple", dd, .seq vs.toArray k, sl⟩) (hs : vs.all isS = true) : IsTop G (.ref a) (.tup (vs.map dOf)) :=
 fun B T => .tup ⟨_, T.k _ _ ho, rfl, _, rfl⟩ (isL_of hs)
theorem IsTop.tupL {a : Addr} {dd : Option Addr} {vs : List Value} {ds : List D} {k : Nat} {sl : Array (Option Value)} (ho : G.K.lookup a = some ⟨.type "tuple", dd, .seq vs.toArray k, sl⟩) (hs : IsTopL G vs ds) : IsTop G (.ref a) (.tup ds) :=
 fun B T => .tup ⟨_, T.k _ _ ho, rfl, _, rfl⟩ (hs.is T)
theorem IsTop.s {v : Value} (h : isS v = true) : IsTop G v (dOf v) := fun B T => by cases v <;> first | (cases h; done) | constructor
inductive EntTop (G : Gd) : List DictEntry → List (D × D) → Prop
 | nil : EntTop G [] []
 | str {x : Str} {t : Tok} {v : Value} {d : D} {es : List DictEntry} {l : List (D × D)} : IsTop G v d → EntTop G es l → EntTop G ({ key := .str x t, hash := PyData.keyHash G.w.params x, val := v } :: es) ((.str x, d) :: l)
theorem EntTop.ent {B : Heap} (T : TopOk G B) {es : List DictEntry} {l : List (D × D)} (x : EntTop G es l) : Ent G.w.params B es l := by
 induction x with
 | nil => exact .nil
 | str a b ih => exact .str rfl rfl (a B T) ih
theorem DctAt.top {a : Addr} {es : List DictEntry} {k : Nat} {l : List (D × D)} (ho : G.K.lookup a = some ⟨.type "dict", none, .dict es.toArray k, #[]⟩) (he : EntTop G es l) (hs : (a == sysModules) = false) : DctAt G H a l :=
 fun B h T S => ⟨hs, _, es, k, S.keep _ _ (T.k _ _ ho), ⟨rfl, rfl, rfl⟩, rfl, (he.ent T).mono (.keeps S.keep)⟩
theorem LstAt.top {a : Addr} {vs : List Value} {ds : List D} {k : Nat} (ho : G.K.lookup a = some ⟨.type "list", none, .seq vs.toArray k, #[]⟩) (hs : IsTopL G vs ds) : LstAt G H a ds :=
 fun B h T S => ⟨vs, ⟨k, S.keep _ _ (T.k _ _ ho)⟩, (hs.is T).mono (.keeps S.keep)⟩
theorem BindsTo.dflt {s : Shared} {fd : FuncData} {vs ws : List Value} {ds es : List D} {ks : List Str} {T : Addr} {o : Obj} {items : List Value} {c : Nat} {k : Option (Array Value) → Sem (List (Str × Value))} (hd : fd.defaults = .ref T) (ho : s.heap.get? T = some o) (hs : o.data = .seq items.toArray c)
  (h₁ : bindArgs fd ⟨vs, []⟩ = seqItems? fd.defaults >>= k) (h₂ : k (some items.toArray) = pure (ks.zip ws)) (i : IsL s.heap ws es) : ∃ ws, BindsTo s fd ⟨vs, []⟩ (ks.zip ws) ∧ IsL s.heap ws es :=
 ⟨ws, BindsTo.of_defaults hd ho hs h₁ h₂, i⟩
noncomputable def Sub (H H' : Hp) : Prop := ∀ a x, H a = some x → H' a = some x
theorem Sub.refl (H : Hp) : Sub H H := fun _ _ e => e
theorem Sub.trans {H H' H'' : Hp} (a : Sub H H') (b : Sub H' H'') : Sub H H'' := fun c x e => b c x (a c x e)
theorem Sub.set {H : Hp} {a : Addr} {x : X} (h : H a = none) : Sub H (H.set a x) := fun c y e => by
 rw [Hp.set_ne _ _ (fun z => by subst z; rw [h] at e; cases e)]; exact e
theorem Sub.set' {H H' : Hp} {a : Addr} {x : X} (s : Sub H H') (h : H a = none) : Sub H (H'.set a x) := fun c y e => by
 rw [Hp.set_ne _ _ (fun z => by subst z; rw [h] at e; cases e)]; exact s c y e
theorem Sub.fresh {H H' : Hp} (s : Sub H H') {a : Addr} (h : H' a = none) : H a = none := by
 cases e : H a with
 | none => rfl
 | some x => rw [s a x e] at h; cases h
theorem Cal.forget {f : Value} {ds : List D} {Q' : D → Prop} (h : Cal G n H f ds fun d H' => Sub H H' ∧ Q' d) : Cal G n H f ds fun d H' => H' = H ∧ Q' d := fun s vs i B A T O S =>
 wpAny_mono (h s vs i B A T O S) (fun v s' ⟨d, H', a, b, c, q⟩ => ⟨d, H, a, b.forget q.1, c, rfl, q.2⟩) fun _ _ z => z
theorem CalP.of {f : Value} {ds : List D} {d : D} (h : Cal G n H f ds fun d' H' => Sub H H' ∧ d' = d) : CalP G n H f ds d := ⟨Cal.mono (Cal.forget h) fun _ _ ⟨a, b⟩ => ⟨b, a⟩⟩
theorem CalC.le {k : Nat} {f : Value} {ds : List D} (h : CalC G k H f ds Q) (q : k ≤ n) : CalC G n H f ds Q := fun s vs i B A T O S => h s vs i B A T (O.le q) S
theorem CalC.p {f : Value} {ds : List D} {d : D} (h : CalC G n H f ds fun d' H' => Sub H H' ∧ d' = d) : CalP G n H f ds d := CalP.of (CalC.cal h)
structure ExT (G : Gd) (n : Nat) (env : Env) (m : Loc) (H : Hp) (ss rest : List Stmt) (d : D) : Prop where
 h : Ex G n env m H ss (Thn G n env rest fun f _ H' => f = .ret d ∧ H' = H)
theorem ExT.nil {rest d} (h : ExP G n env m H rest d) : ExT G n env m H [] rest d := ⟨Ex.nil h.h⟩
theorem ExT.asg {x pos' value pos d d' ss rest} (h : EvP G n env m H value d) (h2 : ExT G n env (lset m x d) H ss rest d') (hs : autoParam (swapsWith value (some (.Name x pos')) pos.line env = pure false) aR) (hk : autoParam (env.scope.kind = .function) aR) (hx : autoParam (env.kindOf x = some .local) aR) :
  ExT G n env m H (.Assign [.Name x pos'] value pos :: ss) rest d' := ⟨Ex.asg (h.to (Asg.name h2.h hk hx)) hs⟩
theorem ExT.iteR {test body pos x d1 d2 ss rest} (h1 : EvPB G n env m H test x) (h2 : x = true → ExP G n env m H body d1) (h3 : x = false → ExT G n env m H ss rest d2) : ExT G n env m H (.If test body [] pos :: ss) rest (bif x then d1 else d2) :=
 ⟨Ex.ite (h1.to ⟨fun e => by subst e; exact Ex.mono (h2 rfl).h fun f m' H' ⟨a, b⟩ => by subst a; exact ⟨rfl, b⟩, fun e => by subst e; exact Ex.nil (h3 rfl).h⟩)⟩
theorem ExP.iteF {test body pos x d1 d2 rest} (h1 : EvPB G n env m H test x) (h2 : x = true → ExT G n env m H body rest d1) (h3 : x = false → ExP G n env m H rest d2) : ExP G n env m H (.If test body [] pos :: rest) (bif x then d1 else d2) :=
 ⟨Ex.ite (h1.to ⟨fun e => by subst e; exact (h2 rfl).h, fun e => by subst e; exact Ex.nil (h3 rfl).h⟩)⟩
end
end
section
set_option tactic.hygienic false
section
variable {G : Gd} {n : Nat} {env : Env} {Q : Fl → Loc → Hp → Prop}
theorem Whl.le {test : Expr} {body : List Stmt} : ∀ {j k : Nat} {m : Loc} {H : Hp}, j ≤ k → Whl G n env test body j m H Q → Whl G n env test body k m H Q
 | 0, _, _, _, _, h => h.elim
 | j + 1, 0, _, _, l, h => absurd l (by one_sign)
 | j + 1, k + 1, m, H, l, h => EvB.mono h fun b H1 ⟨a, c⟩ => ⟨fun e => Ex.mono (a e) fun f m2 H2 z => by
   cases f with
   | next => exact Whl.le (by one_sign) z
   | cont => exact Whl.le (by one_sign) z
   | brk => exact z
   | ret r => exact z, c⟩
theorem Whl.inv {test : Expr} {body : List Stmt} (I : Nat → Loc → Hp → Prop)
  (h : ∀ k m H, I k m H → EvB G n env m H test fun b H1 => (b = true → Ex G n env m H1 body fun fl m2 H2 => match fl with
   | .next => ∃ j, j < k ∧ I j m2 H2
   | .cont => ∃ j, j < k ∧ I j m2 H2
   | .brk => Q .next m2 H2
   | .ret r => Q (.ret r) m2 H2) ∧ (b = false → Q .next m H1)) : ∀ (k : Nat) {m : Loc} {H : Hp}, I k m H → Whl G n env test body (k + 1) m H Q := by
 intro k
 induction k using Nat.strongRecOn with
 | ind k ih =>
  intro m H i
  refine EvB.mono (h k m H i) fun b H1 ⟨a, c⟩ => ⟨fun e => Ex.mono (a e) fun f m2 H2 z => ?_, c⟩
  cases f with
  | next => obtain ⟨j, l, z⟩ := z; exact Whl.le (by one_sign) (ih j l z)
  | cont => obtain ⟨j, l, z⟩ := z; exact Whl.le (by one_sign) (ih j l z)
  | brk => exact z
  | ret r => exact z
theorem Lp.inv {target : Expr} {body : List Stmt} {ok : Hp → Prop} (I : Nat → Loc → Hp → Prop) : ∀ {ds : List D}
  (h : ∀ i d m H, ds[i]? = some d → I i m H → ok H ∧ Asg G n env m H target d fun m1 H1 => Ex G n env m1 H1 body fun fl m2 H2 => match fl with
   | .next => I (i + 1) m2 H2
   | .cont => I (i + 1) m2 H2
   | .brk => Q .next m2 H2
   | .ret r => Q (.ret r) m2 H2)
  (hd : ∀ m H, I ds.length m H → ok H ∧ Q .next m H) {m : Loc} {H : Hp}, I 0 m H → Lp G n env target body ok ds m H Q := by
 intro ds
 induction ds generalizing I with
 | nil => intro h hd m H i; exact hd m H i
 | cons d ds ih =>
  intro h hd m H i
  obtain ⟨a, b⟩ := h 0 d m H rfl i
  refine ⟨a, fun s v hL j => (b s v hL j).mono fun _ _ ⟨m', H'', x, y, c⟩ => ⟨m', H'', x, y, Ex.mono c fun f m2 H2 z => ?_⟩⟩
  have key : I 1 m2 H2 → Lp G n env target body ok ds m2 H2 Q := fun z => ih (fun i => I (i + 1)) (fun i d m H e j => h (i + 1) d m H (by simpa using e) j) (fun m H j => hd m H (by simpa using j)) z
  cases f with
  | next => exact key z
  | cont => exact key z
  | brk => exact z
  | ret r => exact z
theorem Lc.inv {target elt : Expr} {ifs : List Expr} {ok : Hp → Prop} {QL : List D → Hp → Prop} (I : Nat → Loc → Hp → List D → Prop) : ∀ {ds : List D}
  (h : ∀ i d m H acc, ds[i]? = some d → I i m H acc → ok H ∧ Asg G n env m H target d fun m1 H1 => Tst G n env m1 H1 ifs fun b H2 =>
   (b = true → Ev G n env m1 H2 elt fun e H3 => I (i + 1) m1 H3 (acc ++ [e])) ∧ (b = false → I (i + 1) m1 H2 acc))
  (hd : ∀ m H acc, I ds.length m H acc → ok H ∧ QL acc H) {m : Loc} {H : Hp} {acc : List D}, I 0 m H acc → Lc G n env target elt ifs ok ds m H acc QL := by
 intro ds
 induction ds generalizing I with
 | nil => intro h hd m H acc i; exact hd m H acc i
 | cons d ds ih =>
  intro h hd m H acc i
  obtain ⟨a, b⟩ := h 0 d m H acc rfl i
  refine ⟨a, fun s v hL j => (b s v hL j).mono fun _ _ ⟨m', H'', x, y, c⟩ => ⟨m', H'', x, y, ?_⟩⟩
  have key : ∀ {m2 H2 acc2}, I 1 m2 H2 acc2 → Lc G n env target elt ifs ok ds m2 H2 acc2 QL := fun z => ih (fun i => I (i + 1)) (fun i d m H acc e j => h (i + 1) d m H acc (by simpa using e) j) (fun m H acc j => hd m H acc (by simpa using j)) z
  cases ifs with
  | nil => exact ⟨fun e => Ev.mono (c.1 e) fun _ _ z => key z, fun e => key (c.2 e)⟩
  | cons t r =>
   cases r with
   | nil => exact EvB.mono c fun b' H2 z => ⟨fun e => Ev.mono (z.1 e) fun _ _ z => key z, fun e => key (z.2 e)⟩
   | cons _ _ => exact (show False from c).elim
end
theorem lset_self {m : Loc} {k : Str} {d : D} : lset m k d k = some d := if_pos rfl
theorem lset_ne {m : Loc} {k x : Str} {d : D} (h : x ≠ k) : lset m k d x = m x := if_neg h
theorem lset_get {m : Loc} {k x : Str} {d : D} {e : Option D} (h : x ≠ k) (q : m x = e) : lset m k d x = e := (lset_ne h).trans q
theorem Hp.keep {H : Hp} {a b : Addr} {x y : X} (hb : H b = none) (ha : H a = some x) : (H.set b y) a = some x := by
 rw [Hp.set_ne _ _ (fun z => by subst z; rw [hb] at ha; cases ha)]; exact ha
theorem Hp.down {H : Hp} {a b : Addr} {y : X} (h : (H.set b y) a = none) : H a = none := by
 rw [Hp.set_ne _ _ (fun z => by subst z; rw [Hp.set_self] at h; cases h)] at h; exact h
theorem Hp.apart {H : Hp} {a b : Addr} {x : X} (ha : H a = some x) (hb : H b = none) : a ≠ b := fun z => by subst z; rw [hb] at ha; cases ha
end
section
set_option tactic.hygienic false
structure Own (H0 H : Hp) (L : List (Addr × X)) : Prop where
 sub : Sub H0 H
 new : ∀ p ∈ L, H0 p.1 = none
 has : ∀ p ∈ L, H p.1 = some p.2
 nd : (L.map (·.1)).Nodup
theorem Own.refl (H : Hp) : Own H H [] := ⟨.refl _, fun _ h => (List.not_mem_nil h).elim, fun _ h => (List.not_mem_nil h).elim, .nil⟩
theorem Own.alloc {H0 H : Hp} {L : List (Addr × X)} {a : Addr} {x : X} (o : Own H0 H L) (h : H a = none) : Own H0 (H.set a x) ((a, x) :: L) := by
 refine ⟨o.sub.set' (o.sub.fresh h), fun p hp => ?_, fun p hp => ?_, ?_⟩
 ·cases hp with
  | head => exact o.sub.fresh h
  | tail _ hp => exact o.new p hp
 ·cases hp with
  | head => exact Hp.set_self ..
  | tail _ hp => exact Hp.keep h (o.has p hp)
 ·rw [List.map_cons, List.nodup_cons]
  refine ⟨fun z => ?_, o.nd⟩
  obtain ⟨p, hp, e⟩ := List.mem_map.mp z
  have := o.has p hp
  rw [e] at this
  rw [show H a = none from h] at this; cases this
theorem Own.get {H0 H : Hp} {L : List (Addr × X)} {a : Addr} {x : X} (o : Own H0 H L) (h : (a, x) ∈ L) : H a = some x := o.has _ h
theorem set_map_fst {L : List (Addr × X)} {i : Nat} {a : Addr} {x y : X} (h : L[i]? = some (a, x)) : (L.set i (a, y)).map (·.1) = L.map (·.1) := by
 rw [List.map_set]
 have e : (L.map (·.1))[i]? = some a := by rw [List.getElem?_map, h]; rfl
 obtain ⟨hl, e⟩ := List.getElem?_eq_some_iff.mp e
 have := List.set_getElem_self hl
 rw [e] at this; exact this
theorem Own.upd {H0 H : Hp} {L : List (Addr × X)} (o : Own H0 H L) (i : Nat) {a : Addr} {x y : X} (h : L[i]? = some (a, x)) : Own H0 (H.set a y) (L.set i (a, y)) := by
 have hm : (a, x) ∈ L := List.mem_of_getElem? h
 refine ⟨o.sub.set' (o.new (a, x) hm), fun p hp => ?_, fun p hp => ?_, by rw [set_map_fst h]; exact o.nd⟩
 ·rcases List.mem_or_eq_of_mem_set hp with hp | rfl
  ·exact o.new p hp
  ·exact o.new (a, x) hm
 ·by_cases e : p.1 = a
  ·have hn : ((L.set i (a, y)).map (·.1)).Nodup := by rw [set_map_fst h]; exact o.nd
   have hi : i < L.length := (List.getElem?_eq_some_iff.mp h).1
   have hy : (a, y) ∈ L.set i (a, y) := List.mem_of_getElem? (i := i) (by rw [List.getElem?_set_self hi])
   have q : p = (a, y) := by
    obtain ⟨j, hj, e1⟩ := List.mem_iff_getElem.mp hp
    obtain ⟨k, hk, e2⟩ := List.mem_iff_getElem.mp hy
    have hpw := List.pairwise_iff_getElem.mp hn
    have hjk : j = k := by
     rcases Nat.lt_trichotomy j k with z | z | z
     ·exact absurd (by rw [List.getElem_map, List.getElem_map, e1, e2, e]) (hpw j k (by simpa using hj) (by simpa using hk) z)
     ·exact z
     ·exact absurd (by rw [List.getElem_map, List.getElem_map, e1, e2, e]) (hpw k j (by simpa using hk) (by simpa using hj) z)
    subst hjk
    rw [← e1, e2]
   rw [q]; exact Hp.set_self ..
  ·rcases List.mem_or_eq_of_mem_set hp with hp | rfl
   ·exact (Hp.set_ne _ _ e).trans (o.has p hp)
   ·exact absurd rfl e
theorem Own.weak {H0 H : Hp} {L L' : List (Addr × X)} (o : Own H0 H L) (h : List.Sublist L' L) : Own H0 H L' :=
 ⟨o.sub, fun p hp => o.new p (h.subset hp), fun p hp => o.has p (h.subset hp), List.Sublist.nodup (h.map _) o.nd⟩
theorem Own.perm {H0 H : Hp} {L L' : List (Addr × X)} (o : Own H0 H L) (h : L.Perm L') : Own H0 H L' :=
 ⟨o.sub, fun p hp => o.new p (h.mem_iff.mpr hp), fun p hp => o.has p (h.mem_iff.mpr hp), (h.map _).nodup_iff.mp o.nd⟩
theorem Own.trans {H0 H H' : Hp} {L L' : List (Addr × X)} (o : Own H0 H L) (o' : Own H H' L') : Own H0 H' (L' ++ L) := by
 refine ⟨o.sub.trans o'.sub, fun p hp => ?_, fun p hp => ?_, ?_⟩
 ·rcases List.mem_append.mp hp with hp | hp
  ·exact o.sub.fresh (o'.new p hp)
  ·exact o.new p hp
 ·rcases List.mem_append.mp hp with hp | hp
  ·exact o'.has p hp
  ·exact o'.sub _ _ (o.has p hp)
 ·rw [List.map_append, List.nodup_append]
  refine ⟨o'.nd, o.nd, fun x hx y hy e => ?_⟩
  obtain ⟨p, hp, rfl⟩ := List.mem_map.mp hx
  obtain ⟨q, hq, rfl⟩ := List.mem_map.mp hy
  have a := o'.new p hp
  rw [e] at a
  have b := o.has q hq
  have a' : H q.1 = none := a
  rw [a'] at b; cases b
noncomputable def only (H0 : Hp) (L : List (Addr × X)) : Hp := L.foldr (fun p H => H.set p.1 p.2) H0
section
variable {G : Gd} {n : Nat} {env : Env} {m : Loc} {H : Hp} {Q : Fl → Loc → Hp → Prop} {rest : List Stmt}
theorem Ex.fresh {ss} (h : H env.locals = none → Ex G n env m H ss Q) : Ex G n env m H ss Q := fun s hL => h hL s hL
theorem len1 {vs : List Value} (h : vs.length = 1) : ∃ a, vs = [a] := List.length_eq_one_iff.mp h
theorem lenS {vs : List Value} {k : Nat} (h : vs.length = k + 1) : ∃ a l, vs = a :: l ∧ l.length = k := by
 cases vs with
 | nil => cases h
 | cons a l => exact ⟨a, l, rfl, Nat.succ.inj h⟩
theorem len3 {vs : List Value} (h : vs.length = 3) : ∃ a b c, vs = [a, b, c] := by
 obtain ⟨a, l1, rfl, h1⟩ := lenS h
 obtain ⟨b, l2, rfl, h2⟩ := lenS h1
 obtain ⟨c, rfl⟩ := len1 h2
 exact ⟨a, b, c, rfl⟩
theorem len4 {vs : List Value} (h : vs.length = 4) : ∃ a b c d, vs = [a, b, c, d] := by
 obtain ⟨a, l1, rfl, h1⟩ := lenS h
 obtain ⟨b, c, d, rfl⟩ := len3 h1
 exact ⟨a, b, c, d, rfl⟩
theorem Ex.any {ss} (h : ∀ Q' : Fl → Loc → Hp → Prop, (∀ f m' H', Q f m' H' → Q' f m' H') → Ex G n env m H ss Q') : Ex G n env m H ss Q := h Q fun _ _ _ h => h
theorem Ev.fresh {e} {Q : D → Hp → Prop} (h : H env.locals = none → Ev G n env m H e Q) : Ev G n env m H e Q := fun s hL => h hL s hL
theorem Ev.locs {e} {Q : D → Hp → Prop} (h : Ev G n env m H e fun d H' => H' env.locals = none → Q d H') : Ev G n env m H e Q := fun s hL => (h s hL).mono fun d _ ⟨H'', a, b, c⟩ => ⟨H'', a, b, c b⟩
theorem EvPB.conv {e b b'} (h : EvPB G n env m H e b) (q : b = b') : EvPB G n env m H e b' := q ▸ h
theorem ExP.conv {ss d d'} (h : ExP G n env m H ss d) (e : d = d') : ExP G n env m H ss d' := e ▸ h
theorem Ex.iteP {test body orelse pos x} (h : EvPB G n env m H test x) (h1 : x = true → Ex G n env m H body (Thn G n env rest Q)) (h2 : x = false → Ex G n env m H orelse (Thn G n env rest Q)) : Ex G n env m H (.If test body orelse pos :: rest) Q := Ex.ite (h.to ⟨h1, h2⟩)
theorem Ev.builtB {x pos id} {Q : D → Hp → Prop} (hx' : nsIn G.K mainGlobals x = some none) (hv : bootBuiltins x = some (.builtin id)) (q : Q (.bi id) H) (hk : autoParam (env.scope.kind = .function) aR) (hg : autoParam (env.globals = mainGlobals) aR) (hb : autoParam (env.builtins = builtinsNs) aR) (hn : autoParam (x ≠ "__name__") aD)
  (hx : autoParam (env.kindOf x = some .globalImplicit) aR) (hd : autoParam ((x == ("__debug__" : Str)) = false) aD) : Ev G n env m H (.Name x pos) Q := Ev.built hx' hv (fun _ => .bi _) q hk hg hb hn hx hd
theorem Ev.builtT {x pos id} {Q : D → Hp → Prop} (hx' : nsIn G.K mainGlobals x = some none) (hv : bootBuiltins x = some (.type id)) (q : Q (.ty id) H) (hk : autoParam (env.scope.kind = .function) aR) (hg : autoParam (env.globals = mainGlobals) aR) (hb : autoParam (env.builtins = builtinsNs) aR) (hn : autoParam (x ≠ "__name__") aD)
  (hx : autoParam (env.kindOf x = some .globalImplicit) aR) (hd : autoParam ((x == ("__debug__" : Str)) = false) aD) : Ev G n env m H (.Name x pos) Q := Ev.built hx' hv (fun _ => .ty _) q hk hg hb hn hx hd
theorem Ev.callTy {x p e rest pos id} {Q : D → Hp → Prop} (hx' : nsIn G.K mainGlobals x = some none) (hv : bootBuiltins x = some (.type id)) (h : EvL G n env m H pos (e :: rest) fun ds H2 => Cal G n H2 (.type id) ds Q) (hk : autoParam (env.scope.kind = .function) aR) (hg : autoParam (env.globals = mainGlobals) aR) (hb : autoParam (env.builtins = builtinsNs) aR) (hn : autoParam (x ≠ "__name__") aD)
  (hx : autoParam (env.kindOf x = some .globalImplicit) aR) (hd : autoParam ((x == ("__debug__" : Str)) = false) aD)
  (he : autoParam (starEach (e :: rest) env = (false, eval e env) :: starEach rest env) aR) (hp : autoParam ((backTo pos (starEach rest env)).any (·.1) = false) aR) : Ev G n env m H (.Call (.Name x p) (e :: rest) [] pos) Q :=
 Ev.callT (Ev.builtT hx' hv ⟨rfl, h⟩ hk hg hb hn hx hd) he hp
theorem Ev.callBi {x p e rest pos id} {Q : D → Hp → Prop} (hx' : nsIn G.K mainGlobals x = some none) (hv : bootBuiltins x = some (.builtin id)) (h : EvL G n env m H pos (e :: rest) fun ds H2 => Cal G n H2 (.builtin id) ds Q) (hk : autoParam (env.scope.kind = .function) aR) (hg : autoParam (env.globals = mainGlobals) aR) (hb : autoParam (env.builtins = builtinsNs) aR) (hn : autoParam (x ≠ "__name__") aD)
  (hx : autoParam (env.kindOf x = some .globalImplicit) aR) (hd : autoParam ((x == ("__debug__" : Str)) = false) aD)
  (he : autoParam (starEach (e :: rest) env = (false, eval e env) :: starEach rest env) aR) (hp : autoParam ((backTo pos (starEach rest env)).any (·.1) = false) aR) : Ev G n env m H (.Call (.Name x p) (e :: rest) [] pos) Q :=
 Ev.callB (Ev.builtB hx' hv ⟨rfl, h⟩ hk hg hb hn hx hd) he hp
theorem Ev.callG {x p e rest pos f} {Q : D → Hp → Prop} (hx' : nsIn G.K mainGlobals x = some (some (.ref f))) (hkp : keepIn G.K (.ref f) = true) (h : EvL G n env m H pos (e :: rest) fun ds H2 => Cal G n H2 (.ref f) ds Q) (hk : autoParam (env.scope.kind = .function) aR) (hg : autoParam (env.globals = mainGlobals) aR)
  (hx : autoParam (env.kindOf x = some .globalImplicit) aR) (hd : autoParam ((x == ("__debug__" : Str)) = false) aD)
  (he : autoParam (starEach (e :: rest) env = (false, eval e env) :: starEach rest env) aR) (hp : autoParam ((backTo pos (starEach rest env)).any (·.1) = false) aR) : Ev G n env m H (.Call (.Name x p) (e :: rest) [] pos) Q :=
 Ev.callD hkp (Ev.glob hx' IsTop.ref ⟨rfl, h⟩ hk hg hx hd) he hp
theorem Ev.callG0 {x p pos f} {Q : D → Hp → Prop} (hx' : nsIn G.K mainGlobals x = some (some (.ref f))) (hkp : keepIn G.K (.ref f) = true) (h : Cal G n H (.ref f) [] Q) (hk : autoParam (env.scope.kind = .function) aR) (hg : autoParam (env.globals = mainGlobals) aR)
  (hx : autoParam (env.kindOf x = some .globalImplicit) aR) (hd : autoParam ((x == ("__debug__" : Str)) = false) aD) : Ev G n env m H (.Call (.Name x p) [] [] pos) Q :=
 Ev.callD0 hkp (Ev.glob hx' IsTop.ref ⟨rfl, h⟩ hk hg hx hd)
inductive ApQ (G : Gd) (n : Nat) (env : Env) (m : Loc) (a : Addr) (rest : List Stmt) (Q : Fl → Loc → Hp → Prop) (d : D) (H2 : Hp) : Prop
 | mk (l : List D) (h : H2 a = some (.lst l)) (hz : l.length ≤ sizeLine) (k : Ex G n env m (H2.set a (.lst (l ++ [d]))) rest Q)
theorem Ex.append {o e apos pos spos a l0} {pl : Sem Bool} (ho : EvP G n env m H o (.ref a)) (h0 : H a = some (.lst l0))
  (h : Ev G n env m H e (ApQ G n env m a rest Q))
  (he : autoParam (eval (.Call (.Attribute o (Str.ofString "append") apos) [e] [] pos) env = (do
   let ov ← eval o env
   standAt apos.atName
   let (f, first) ← holding [ov] (getMethod ov (Str.ofString "append") pl)
   callWith pos f first (backTo pos (starEach (e :: []) env)) [])) aR)
  (hs : autoParam (starEach (e :: []) env = (false, eval e env) :: starEach [] env) aR) (hi : autoParam (interactive env = false) aR) (hsw : autoParam (swapsWith (.Call (.Attribute o (Str.ofString "append") apos) [e] [] pos) none spos.line env = pure false) aR) :
  Ex G n env m H (.Expr (.Call (.Attribute o (Str.ofString "append") apos) [e] [] pos) spos :: rest) Q := Ex.fresh fun hL =>
 Ex.expr (Ev.methB (T := "list") (id := "list.append") (pl := pl) PySem.F.plainAttrs_list PySem.F.slot_list_append PySem.F.type_list_append (ho.to ⟨a, rfl, list_there hL h0, EvL.cons (Ev.mono h fun d H2 ⟨l, g1, g2, g3⟩ => EvL.nil (Cal.append g1 g3 g2)) hs⟩) he hs rfl) hi hsw
theorem Ex.forEnum {target x p e cpos body pos l ds} (hn : 1 ≤ n) (hx' : nsIn G.K mainGlobals x = some none) (hv : bootBuiltins x = some (.type "enumerate")) (he : EvP G n env m H e (.ref l)) (hl : H l = some (.lst ds)) (ht : isTp target = true)
  (h : Lp G n env target body (fun H => H l = some (.lst ds)) (enuL ds) m H (Thn G n env rest Q)) (hk : autoParam (env.scope.kind = .function) aR) (hg : autoParam (env.globals = mainGlobals) aR) (hb : autoParam (env.builtins = builtinsNs) aR) (hnn : autoParam (x ≠ "__name__") aD)
  (hx : autoParam (env.kindOf x = some .globalImplicit) aR) (hd : autoParam ((x == ("__debug__" : Str)) = false) aD)
  (hst : autoParam (starEach (e :: []) env = (false, eval e env) :: starEach [] env) aR) (hs : autoParam (∀ y, foldedSetIterable (.Call (.Name x p) [e] [] cpos) env y = pure y) aI) :
  Ex G n env m H (.For target (.Call (.Name x p) [e] [] cpos) body [] pos :: rest) Q := Ex.fresh fun hL =>
 Ex.for' hn (Ev.callTy hx' hv (EvL.cons (he.to (EvL.nil (Cal.enumL (LstAt.own hl) fun it e' h1 h2 h3 => ⟨isTp, H, enuL ds, _, Itr.enL h3 h1 h2, ht, hL, h⟩))) hst) hk hg hb hnn hx hd hst rfl) hs
theorem Ex.forLst {target iter body pos l ds} (hn : 1 ≤ n) (he : EvP G n env m H iter (.ref l)) (hl : H l = some (.lst ds)) (ht : isTgt target = true)
  (h : Lp G n env target body (fun H => H l = some (.lst ds)) ds m H (Thn G n env rest Q)) (hs : autoParam (∀ y, foldedSetIterable iter env y = pure y) aI) :
  Ex G n env m H (.For target iter body [] pos :: rest) Q := Ex.fresh fun hL => Ex.for' hn (he.to ⟨_, _, ds, _, Itr.lst hl, ht, hL, h⟩) hs
theorem Ex.forTup {target iter body pos ds} (hn : 1 ≤ n) (he : EvP G n env m H iter (.tup ds)) (ht : isTgt target = true)
  (h : Lp G n env target body (fun _ => True) ds m H (Thn G n env rest Q)) (hs : autoParam (∀ y, foldedSetIterable iter env y = pure y) aI) :
  Ex G n env m H (.For target iter body [] pos :: rest) Q := Ex.fresh fun hL => Ex.for' hn (he.to ⟨_, _, ds, _, Itr.tup, ht, hL, h⟩) hs
theorem Ex.forRng1 {target x p e cpos body pos} {hi : Int} (hn : 1 ≤ n) (hx' : nsIn G.K mainGlobals x = some none) (hv : bootBuiltins x = some (.type "range")) (he : EvP G n env m H e (.int hi)) (h3 : -(2 ^ 62) ≤ hi) (h4 : hi < 2 ^ 62) (ht : isNm target = true)
  (h : Lp G n env target body (fun _ => True) (rngL 0 hi) m H (Thn G n env rest Q)) (hk : autoParam (env.scope.kind = .function) aR) (hg : autoParam (env.globals = mainGlobals) aR) (hb : autoParam (env.builtins = builtinsNs) aR) (hnn : autoParam (x ≠ "__name__") aD)
  (hx : autoParam (env.kindOf x = some .globalImplicit) aR) (hd : autoParam ((x == ("__debug__" : Str)) = false) aD)
  (hst : autoParam (starEach (e :: []) env = (false, eval e env) :: starEach [] env) aR) (hs : autoParam (∀ y, foldedSetIterable (.Call (.Name x p) [e] [] cpos) env y = pure y) aI) :
  Ex G n env m H (.For target (.Call (.Name x p) [e] [] cpos) body [] pos :: rest) Q := Ex.fresh fun hL =>
 Ex.for' hn (Ev.callTy hx' hv (EvL.cons (he.to (EvL.nil (Cal.rng1 ⟨isNm, H, rngL 0 hi, _, Itr.rng (by one_sign) (by one_sign) h3 h4, ht, hL, h⟩))) hst) hk hg hb hnn hx hd hst rfl) hs
theorem Ex.forRng2 {target x p e e2 cpos body pos} {lo hi : Int} (hn : 1 ≤ n) (hx' : nsIn G.K mainGlobals x = some none) (hv : bootBuiltins x = some (.type "range")) (he : EvP G n env m H e (.int lo)) (he2 : EvP G n env m H e2 (.int hi)) (h1 : -(2 ^ 62) ≤ lo) (h2 : lo < 2 ^ 62) (h3 : -(2 ^ 62) ≤ hi) (h4 : hi < 2 ^ 62) (ht : isNm target = true)
  (h : Lp G n env target body (fun _ => True) (rngL lo hi) m H (Thn G n env rest Q)) (hk : autoParam (env.scope.kind = .function) aR) (hg : autoParam (env.globals = mainGlobals) aR) (hb : autoParam (env.builtins = builtinsNs) aR) (hnn : autoParam (x ≠ "__name__") aD)
  (hx : autoParam (env.kindOf x = some .globalImplicit) aR) (hd : autoParam ((x == ("__debug__" : Str)) = false) aD)
  (hst : autoParam (starEach (e :: [e2]) env = (false, eval e env) :: starEach [e2] env) aR) (hst2 : autoParam (starEach (e2 :: []) env = (false, eval e2 env) :: starEach [] env) aR) (hp : autoParam ((backTo cpos (starEach [e2] env)).any (·.1) = false) aR) (hs : autoParam (∀ y, foldedSetIterable (.Call (.Name x p) [e, e2] [] cpos) env y = pure y) aI) :
  Ex G n env m H (.For target (.Call (.Name x p) [e, e2] [] cpos) body [] pos :: rest) Q := Ex.fresh fun hL =>
 Ex.for' hn (Ev.callTy hx' hv (EvL.cons (he.to (EvL.cons (he2.to (EvL.nil (Cal.rng2 ⟨isNm, H, rngL lo hi, _, Itr.rng h1 h2 h3 h4, ht, hL, h⟩))) hst2)) hst) hk hg hb hnn hx hd hst hp) hs
end
end
section
set_option tactic.hygienic false
theorem pickL_plain {α : Type} (xs : List α) (lo hi : Option Int) : pickL xs lo hi none = (xs.drop (lo.elim 0 (clipAt xs.length))).take (hi.elim xs.length (clipAt xs.length) - lo.elim 0 (clipAt xs.length)) := by
 unfold pickL
 rw [sliceBounds_plain]
 simp only [sliceRange_one]
 have := pick_run xs.toArray (lo.elim 0 (clipAt xs.length)) (hi.elim xs.length (clipAt xs.length) - lo.elim 0 (clipAt xs.length))
 simpa using this
theorem pickL_upto {α : Type} (xs : List α) {b : Int} (hb : 0 ≤ b) : pickL xs none (some b) none = xs.take b.toNat := by
 obtain ⟨b, rfl⟩ := Int.eq_ofNat_of_zero_le hb
 rw [pickL_plain]
 simp only [Option.elim, clipAt_nat, List.drop_zero, Nat.sub_zero, Int.toNat_natCast]
 rcases Nat.le_total b xs.length with h | h
 ·rw [Nat.min_eq_left h]
 ·rw [Nat.min_eq_right h, List.take_of_length_le (Nat.le_refl _), List.take_of_length_le h]
theorem pickL_from {α : Type} (xs : List α) {a : Int} (ha : 0 ≤ a) : pickL xs (some a) none none = xs.drop a.toNat := by
 obtain ⟨a, rfl⟩ := Int.eq_ofNat_of_zero_le ha
 rw [pickL_plain]
 simp only [Option.elim, clipAt_nat, Int.toNat_natCast]
 rcases Nat.le_total a xs.length with h | h
 ·rw [Nat.min_eq_left h, List.take_of_length_le (by simp)]
 ·rw [Nat.min_eq_right h, List.drop_of_length_le (Nat.le_refl _), List.drop_of_length_le h]; simp
theorem pickL_run {α : Type} (xs : List α) {a b : Int} (ha : 0 ≤ a) (hb : 0 ≤ b) : pickL xs (some a) (some b) none = (xs.drop a.toNat).take (b.toNat - a.toNat) := by
 obtain ⟨a, rfl⟩ := Int.eq_ofNat_of_zero_le ha
 obtain ⟨b, rfl⟩ := Int.eq_ofNat_of_zero_le hb
 rw [pickL_plain]
 simp only [Option.elim, clipAt_nat, Int.toNat_natCast]
 rcases Nat.le_total a xs.length with h | h
 ·rw [Nat.min_eq_left h]
  refine List.take_eq_take_iff.mpr ?_
  rw [List.length_drop, ← Nat.sub_min_sub_right, Nat.min_assoc, Nat.min_self]
 ·rw [Nat.min_eq_right h, List.drop_of_length_le (Nat.le_refl _), List.drop_of_length_le h, List.take_nil, List.take_nil]
theorem toNat_p1 (i : Nat) : ((i : Int) - 1).toNat = i - 1 := by omega
theorem pickL_butLast {α : Type} (xs : List α) : pickL xs none (some (-1)) none = xs.dropLast := by
 rw [pickL_plain]
 have : clipAt xs.length (-1) = xs.length - 1 := clipAt_neg xs.length 1 (Nat.le_refl _)
 simp only [Option.elim, this, List.drop_zero, Nat.sub_zero]
 rw [List.dropLast_eq_take]
theorem down_range (n : Nat) : sliceRange ((n : Int) - 1) (-1) (-1) = (List.range n).map fun k => n - 1 - k := by
 unfold sliceRange
 rw [if_neg (by decide)]
 by_cases h : n = 0
 ·subst h; rfl
 ·rw [if_pos (by omega)]
  have e : (((n : Int) - 1 - -1 - -1 - 1) / -(-1)).toNat = n := by
   rw [show (-(-1) : Int) = 1 by decide, Int.ediv_one]; omega
  simp only [e]
  apply List.map_congr_left
  intro k hk
  omega
theorem down_pick {α : Type} (xs : List α) (n : Nat) (h : n ≤ xs.length) : ((List.range n).map fun k => n - 1 - k).filterMap (xs[·]?) = (xs.take n).reverse := by
 induction n with
 | zero => simp
 | succ n ih =>
  rw [List.range_succ_eq_map, List.map_cons, List.map_map]
  have hn : n < xs.length := h
  have e : ((fun k => n + 1 - 1 - k) ∘ Nat.succ) = fun k => n - 1 - k := by funext k; simp; omega
  rw [e, List.filterMap_cons, show n + 1 - 1 - 0 = n by omega, List.getElem?_eq_getElem hn]
  simp only
  have e2 : xs.take (n + 1) = xs.take n ++ [xs[n]] := by rw [List.take_add_one, List.getElem?_eq_getElem hn]; rfl
  rw [ih (by omega), e2, List.reverse_append]
  rfl
theorem pickL_rev {α : Type} (xs : List α) : pickL xs none none (some (-1)) = xs.reverse := by
 unfold pickL
 have e : sliceBounds none none (some (-1)) xs.length = ((xs.length : Int) - 1, -1, -1) := by simp [sliceBounds]
 rw [e]
 simp only
 rw [down_range, down_pick xs xs.length (Nat.le_refl _), List.take_length]
theorem pickL_rev2 {α : Type} (xs : List α) : pickL xs (some (-2)) none (some (-1)) = xs.dropLast.reverse := by
 unfold pickL
 have e : sliceBounds (some (-2)) none (some (-1)) xs.length = (((xs.length - 1 : Nat) : Int) - 1, -1, -1) := by
  simp only [sliceBounds, Option.getD_some]
  simp
  omega
 rw [e]
 simp only
 rw [down_range, down_pick xs _ (by omega), List.dropLast_eq_take]
section
variable {G : Gd} {n : Nat} {env : Env} {m : Loc} {H : Hp}
theorem Ex.iteJ {test body pos b rest} {Q : Fl → Loc → Hp → Prop} {P : Loc → Hp → Prop} (ht : EvPB G n env m H test b) (h1 : b = true → Ex G n env m H body (fun fl m' H' => fl = .next ∧ P m' H')) (h2 : b = false → P m H) (h3 : ∀ m' H', P m' H' → Ex G n env m' H' rest Q) : Ex G n env m H (.If test body [] pos :: rest) Q :=
 Ex.iteP ht (fun e => Ex.mono (h1 e) fun fl m' H' ⟨a, p⟩ => by subst a; exact h3 m' H' p) (fun e => Ex.nil (h3 _ _ (h2 e)))
theorem EvP.builtT {x pos id} (hx' : nsIn G.K mainGlobals x = some none) (hv : bootBuiltins x = some (.type id)) (hk : autoParam (env.scope.kind = .function) aR) (hg : autoParam (env.globals = mainGlobals) aR) (hb : autoParam (env.builtins = builtinsNs) aR) (hn : autoParam (x ≠ "__name__") aD)
  (hx : autoParam (env.kindOf x = some .globalImplicit) aR) (hd : autoParam ((x == ("__debug__" : Str)) = false) aD) : EvP G n env m H (.Name x pos) (.ty id) := ⟨Ev.builtT hx' hv ⟨rfl, rfl⟩ hk hg hb hn hx hd⟩
theorem CalP.isB {d b} (hb : isBool d = some b) : CalP G n H (.builtin "isinstance") [d, .ty "bool"] (.bool b) := ⟨Cal.isB hb ⟨rfl, rfl⟩⟩
theorem Ex.forgetH {ss} {Q : Fl → Loc → Hp → Prop} {H₀ : Hp} (h : Ex G n env m H₀ ss Q) (k : ∀ a x, H₀ a = some x → H a = some x) : Ex G n env m H ss Q := fun s hL B A T O S => by
 have hL0 : H₀ env.locals = none := by
  cases e : H₀ env.locals with
  | none => rfl
  | some x => rw [k _ _ e] at hL; cases hL
 exact h s hL0 B A T O (S.forget fun a x e => by
  by_cases z : a = env.locals
  ·subst z; rw [Hp.set_self] at e ⊢; exact e
  ·rw [Hp.set_ne _ _ z] at e ⊢; exact k a x e)
end
end
section
set_option tactic.hygienic false
theorem kt_eq {k j : Ky} {e : D} (h : kt k e = true) (g : kt j e = true) : k = j := by
 cases k <;> cases j <;> cases e <;> simp_all [kt]
theorem kget_kput_ne {k j : Ky} {d : D} (h : j ≠ k) : ∀ l : List (D × D), kget j (kput k d l) = kget j l
 | [] => by
  show (if kt j (kd k) = true then some d else none) = none
  rw [kt_kd, if_neg (by simpa using Ne.symm h)]
 | (e, x) :: r => by
  unfold kput
  by_cases q : kt k e = true
  ·rw [if_pos q]
   have : ¬ kt j e = true := fun z => h (kt_eq z q)
   unfold kget; rw [if_neg this, if_neg this]
  ·rw [if_neg q]; unfold kget; rw [kget_kput_ne h r]
theorem kget_kput_self {k : Ky} {d : D} : ∀ l : List (D × D), kget k (kput k d l) = some d
 | [] => by show (if kt k (kd k) = true then some d else none) = _; rw [kt_kd, if_pos (by simp)]
 | (e, x) :: r => by
  unfold kput
  by_cases q : kt k e = true
  ·rw [if_pos q]; unfold kget; rw [if_pos q]
  ·rw [if_neg q]; unfold kget; rw [if_neg q, kget_kput_self r]
theorem kput_len {k : Ky} {d : D} : ∀ l : List (D × D), (kput k d l).length ≤ l.length + 1
 | [] => by simp [kput]
 | (e, x) :: r => by
  have := kput_len (k := k) (d := d) r
  unfold kput; split <;> simp only [List.length_cons] <;> one_sign
theorem kput_any {k j : Ky} {d : D} (h : j ≠ k) : ∀ l : List (D × D), ((kput k d l).any fun q => kt j q.1) = l.any fun q => kt j q.1
 | [] => by
  show (kt j (kd k) || false) = false
  rw [kt_kd]; simpa using Ne.symm h
 | (e, x) :: r => by
  unfold kput
  by_cases q : kt k e = true
  ·rw [if_pos q]; rfl
  ·rw [if_neg q, List.any_cons, List.any_cons, kput_any h r]
theorem kOf_kt {k : Ky} {e : D} (h : kOf e = some k) : ∀ j, kt j e = decide (k = j) := fun j => by
 cases e <;> cases k <;> cases j <;> simp_all [kOf, kt]
theorem knodB_kput {k : Ky} {d : D} : ∀ {l : List (D × D)}, knodB l = true → knodB (kput k d l) = true
 | [], _ => by
  unfold kput knodB
  simp [kOf_kd, knodB]
 | (e, x) :: r, h => by
  unfold knodB at h
  rw [Bool.and_eq_true] at h
  unfold kput
  by_cases q : kt k e = true
  ·rw [if_pos q]; unfold knodB; rw [Bool.and_eq_true]; exact h
  ·rw [if_neg q]
   unfold knodB
   rw [Bool.and_eq_true]
   refine ⟨?_, knodB_kput h.2⟩
   have h1 := h.1
   simp only at h1 ⊢
   cases ek : kOf e with
   | none => rfl
   | some j =>
    rw [ek] at h1
    simp only at h1 ⊢
    have : j ≠ k := fun z => by subst z; exact q (by rw [kOf_kt ek]; simp)
    rw [kput_any this]; exact h1
noncomputable def tf : D → Bool
 | .tup _ => false
 | .rng _ _ => false
 | _ => true
noncomputable def TFd (l : List (D × D)) : Prop := ∀ p ∈ l, tf p.2 = true
theorem TFd.kput {k : Ky} {d : D} (hd : tf d = true) : ∀ {l : List (D × D)}, TFd l → TFd (kput k d l)
 | [], _ => fun p hp => by simp [Mine.kput] at hp; rw [hp]; exact hd
 | (e, x) :: r, h => by
  unfold Mine.kput
  split
  ·intro p hp
   cases hp with
   | head => exact hd
   | tail _ hp => exact h p (.tail _ hp)
  ·intro p hp
   cases hp with
   | head => exact h _ (.head _)
   | tail _ hp => exact TFd.kput hd (fun q hq => h q (.tail _ hq)) p hp
section
variable {G : Gd} {n : Nat} {env : Env} {m : Loc} {H : Hp}
theorem Ev.opq {e} {Q : D → Hp → Prop} (h : Ev G n env m H e fun d H1 => (∃ l, d = .tup l) ∧ ∀ a, Q (.ref a) H1) : Ev G n env m H e Q := by
 intro s hL B A T O S
 refine wpAny_mono (h s hL B A T O S) ?_ fun _ _ z => z
 rintro v s1 ⟨_, _, i, S1, st1, H1, rfl, hL1, ⟨l, rfl⟩, h1⟩
 cases i with | tup t _ => exact ⟨_, _, .ref _, S1, st1, H1, rfl, hL1, h1 _⟩
end
end
section
set_option tactic.hygienic false
section
variable {G : Gd} {n : Nat} {env : Env} {m : Loc} {H : Hp} {Q : D → Hp → Prop}
end
end
section
set_option tactic.hygienic false
noncomputable def LstI (G : Gd) (H : Hp) (a : Addr) (l : List D) : Prop := ∀ B h, TopOk G B → Sat G B H h → ∃ vs : List Value, h.IsList a vs.toArray ∧ IsL h vs l
section
variable {G : Gd} {n : Nat} {env : Env} {m : Loc} {H : Hp} {Q : D → Hp → Prop}
theorem LstAt.i {a l} (h : LstAt G H a l) : LstI G H a l := fun B h' T S => let ⟨vs, a, b⟩ := h B h' T S; ⟨vs, a.isList, b⟩
theorem ints_isL {h : Heap} {vs : List Value} {ns : List Int} (x : IntsAre vs ns) : IsL h vs (ns.map .int) := by
 induction x with
 | nil => exact .nil
 | cons _ _ r ih => exact .cons (.int _ _) ih
theorem LstI.script : LstI G H G.sc (G.si.map .int) := fun B h' T S => by
 obtain ⟨vs, a, b⟩ := T.s
 exact ⟨vs, a.at fun o e => S.keep _ o e, ints_isL b⟩
theorem Ev.slcI {value : Expr} {lo hi step : Option Expr} {p pos : Pos}
  (h : Ev G n env m H value (SlQ G n env m lo hi step (LstI G) Q)) :
  Ev G n env m H (.Subscript value (.Slice lo hi step p) pos) Q := by
 intro s hL B A T O S
 refine Subscript_ (wpAny_mono (h s hL B A T O S) ?_ fun _ _ z => z)
 rintro v1 s1 ⟨d1, _, i1, S1, st1, H1, rfl, hL1, l, xs, a, b, c, rfl, hl, ha, hb, hc, h0, hz, q⟩
 (first | (replace i1 := i1.inv; obtain rfl := i1) | (replace i1 := i1.inv; obtain ⟨_, rfl⟩ := i1) | cases i1)
 refine wpAny_Slice (wpAny_mono (ha.run hL1 T O S1) ?_ fun _ _ z => z)
 rintro va s2 ⟨pa, S2, st2⟩
 refine wpAny_mono (hb.run hL1 T O S2) ?_ fun _ _ z => z
 rintro vb s3 ⟨pb, S3, st3⟩
 refine wpAny_mono (hc.run hL1 T O S3) ?_ fun _ _ z => z
 rintro vc s4 ⟨pc, S4, st4⟩
 obtain ⟨vs, t, i⟩ := hl B _ T (S4.drop hL1)
 have k1 := push_keeps s4.heap { cls := .type "slice", data := .fields #[va, vb, vc] }
 have S5 := S4.keeps k1
 have k2 := push_keeps (s4.heap.push { cls := .type "slice", data := .fields #[va, vb, vc] }) { cls := .type "list", data := .seq (slicePick vs.toArray a b c) }
 have kp : TupKeep s4.heap _ := .trans (.keeps k1) (.keeps k2)
 have hf := S5.fresh (Nat.le_refl _)
 have S6 := S5.new (x := .lst (pickL xs a b c)) k2 (Nat.le_refl _) ⟨(slicePick vs.toArray a b c).toList, ⟨_, Heap.get?_push_size _ rfl⟩, (i.mono kp).pick a b c⟩
 obtain ⟨ops, e⟩ := subscripted_false (.Slice lo hi step p) (.ref l) (.ref s4.heap.objs.size)
 have t' := t.push { cls := .type "slice", data := .fields #[va, vb, vc] }
 refine tail_any (Heap.IsList.typeIs (s := { s4 with heap := s4.heap.push { cls := .type "slice", data := .fields #[va, vb, vc] } }) t') list_getitem_lookup (wpAny_getItem_list_slice t' (Heap.IsSliceOf.new ..) pa pb pc h0 ?_ (by rw [List.size_toArray, i.length]; exact hz)) e
 have ne : (s4.heap.push { cls := .type "slice", data := .fields #[va, vb, vc] }).objs.size ≠ env.locals := fun z => by rw [z, Hp.set_self] at hf; cases hf
 rw [Hp.set_ne _ _ ne] at hf
 refine ⟨_, _, .ref _, S6, (((st1.trans st2).trans st3).trans st4).trans (.hp kp), _, Hp.set_comm _ _ _ (Ne.symm ne), ?_, q _ hf⟩
 rw [Hp.set_ne _ _ (Ne.symm ne)]; exact hL1
theorem Ev.slc {value : Expr} {lo hi step : Option Expr} {p pos : Pos}
  (h : Ev G n env m H value (SlQ G n env m lo hi step (LstAt G) Q)) :
  Ev G n env m H (.Subscript value (.Slice lo hi step p) pos) Q := by
 exact Ev.slcI (h.mono fun d H1 ⟨l, xs, a, b, c, e, hl, ha, hb, hc, h0, hz, q⟩ => ⟨l, xs, a, b, c, e, hl.i, ha, hb, hc, h0, hz, q⟩)
end
end
section
set_option tactic.hygienic false
open Builtin
section
variable {prog : Program} {w : World} {A : Around} {E : Value → Shared → Prop} {s : Shared}
variable {z TI TO i1 i2 : Addr} {fp1 fp2 : List Addr} {n1 n2 : Nat} {P1 P2 : Nat → Value → Prop} {St1 St2 : Nat → Heap → Prop} {k : Nat}
end
end
section
set_option tactic.hygienic false
open Builtin
section
variable {G : Gd} {n : Nat} {env : Env} {m : Loc} {H : Hp} {Q : Fl → Loc → Hp → Prop} {rest : List Stmt}
end
end
section
set_option tactic.hygienic false
section
variable {G : Gd} {n : Nat} {env : Env} {m : Loc} {H : Hp}
theorem leq_str {l r : List D} (e : l = r) (h1 : ∀ d ∈ l, ∃ s, d = .str s) : leq l r = true := by
 subst e
 unfold leq
 rw [Bool.and_eq_true]
 refine ⟨by simp, ?_⟩
 rw [List.all_eq_true]
 intro p hp
 have : p.1 = p.2 := by
  obtain ⟨i, hi, e⟩ := List.mem_iff_getElem.mp hp
  rw [← e, List.getElem_zip]
 obtain ⟨s, e⟩ := h1 p.1 (List.of_mem_zip hp).1
 rw [← this, e]
 exact beq_self_eq_true s
end
end
section
set_option tactic.hygienic false
open MeetsSeq2 (wpAny_forIn_array)
open AutoSeq1 (wpAny_loadPart')
section
variable {G : Gd} {n : Nat} {env : Env} {m : Loc} {H : Hp} {Q : D → Hp → Prop}
end
end
section
set_option tactic.hygienic false
open Sem (wp)
section
variable {prog : Program} {w : World} {A : Around} {E : Value → Shared → Prop} {s : Shared}
end
end
section
set_option tactic.hygienic false
section
variable {G : Gd} {n : Nat} {H : Hp} {Q : D → Hp → Prop}
end
end
section
set_option tactic.hygienic false
section
variable {G : Gd} {n : Nat} {H : Hp} {Q : D → Hp → Prop}
end
end
section
set_option tactic.hygienic false
noncomputable def pinX (P : Params) (l : List (D × D)) (ep : Nat) : X := .raw (fun h o => o.ExactDict ∧ ∃ es : List DictEntry, o.data = .dict es.toArray ep ∧ Ent P h es l) fun h h' o k ⟨a, es, b, c⟩ => ⟨a, es, b, c.mono k⟩
noncomputable def kitX (d : Addr) (k n ep : Nat) : X := .raw (fun _ o => o.cls = .type "dict_keyiterator" ∧ o.data = .fields #[.ref d, .int k 0, .int n 0, .int ep 0]) fun _ _ _ _ a => a
section
variable {G : Gd} {n : Nat} {H : Hp} {Q : D → Hp → Prop} {env : Env} {m : Loc}
theorem Sat.pin {B : Heap} {h : Heap} {d : Addr} {l : List (D × D)} (S : Sat G B H h) (hd : H d = some (.dct l)) : ∃ ep, Sat G B (H.set d (pinX G.w.params l ep)) h := by
 obtain ⟨o, es, c, h1, h2, h3, h4⟩ := (S.own _ _ hd).2
 refine ⟨c, S.keep, fun a x e => ?_, S.low, fun a x e => ?_⟩
 ·by_cases z : a = d
  ·subst z; rw [Hp.set_self] at e; cases e
   exact ⟨(S.own _ _ hd).1, o, h1, by unfold imm; rw [h3], h2, es, h3, h4⟩
  ·rw [Hp.set_ne _ _ z] at e; exact S.own a x e
 ·by_cases z : a = d
  ·subst z; exact S.off _ _ hd
  ·rw [Hp.set_ne _ _ z] at e; exact S.off a x e
theorem Ent.dictAt {B : Heap} {h : Heap} {d : Addr} {l : List (D × D)} {ep : Nat} (S : Sat G B H h) (hd : H d = some (pinX G.w.params l ep)) (z : knodB l = true) : ∃ kvs, h.DictAt (mx G.prog G.w) d kvs ep ∧ KvL h kvs l := by
 obtain ⟨o, h1, h2, h3, es, h4, h5⟩ := (S.own _ _ hd).2
 obtain ⟨kvs, p, b⟩ := h5.kv (prog := G.prog)
 exact ⟨kvs, ⟨o, es.toArray, h1, h3, h4, fun e he => h5.keysOf (prog := G.prog) e (by simpa using he), by simpa using p, b.nodup z⟩, b⟩
theorem KvL.at {h : Heap} {kvs : List (Ky × Value)} {l : List (D × D)} (x : KvL h kvs l) {i : Nat} {d : D} (e : (l.map (·.1))[i]? = some d) : ∃ k v, kvs[i]? = some (k, v) ∧ d = kd k := by
 induction x generalizing i with
 | nil => cases e
 | @cons k v _ _ _ _ r ih =>
  cases i with
  | zero => exact ⟨k, v, rfl, (Option.some.inj e).symm⟩
  | succ i => exact ih e
noncomputable def srcD (it d : Addr) (l : List (D × D)) (ep : Nat) (z : knodB l = true) : Src G :=
 Src.one it isTgt (l.map (·.1)) (fun k => kitX d k l.length ep) (fun H => H d = some (pinX G.w.params l ep)) (fun {H a x} ha h => by
   have ne : d ≠ a := fun z => by subst z; rw [ha] at h; cases h
   rw [Hp.set_ne _ _ ne]; exact h)
  (by
   intro target k d' H B A s ht hi hf hl T O S
   have ne : d ≠ it := fun z => by subst z; rw [hf] at hl; cases hl
   obtain ⟨o, h1, _, h2, h3⟩ := raw_at S (Hp.set_self ..)
   obtain ⟨kvs, hD, b⟩ := Ent.dictAt S ((Hp.set_ne _ _ ne).trans hl) z
   obtain ⟨ky, v, e1, rfl⟩ := b.at hi
   refine wpAny_pyNext_dict_item (i := k) ⟨o, h1, h2, by rw [b.length]; exact h3⟩ hD e1 fun key h' hkey hr hs => ⟨_, rfl, ?_⟩
   have kp := S.tupBut (Hp.set_self ..) hs
   have z := S.upd (x' := kitX d (k + 1) l.length ep) (Hp.set_self ..) hs (by
    obtain ⟨o', a, b', c⟩ := hr
    rw [b.length] at c
    exact ⟨o', a, by unfold imm; rw [c, b']; exact (by decide : (Value.type "dict_keyiterator" == Value.type "range") = false), b', c⟩)
   rw [Hp.set_set] at z
   exact letGo_keyiter hr ⟨kis_is hkey, z, .hp kp⟩)
  (by
   intro k H B A s hk hf hl T O S
   have ne : d ≠ it := fun z => by subst z; rw [hf] at hl; cases hl
   obtain ⟨o, h1, _, h2, h3⟩ := raw_at S (Hp.set_self ..)
   obtain ⟨kvs, hD, b⟩ := Ent.dictAt S ((Hp.set_ne _ _ ne).trans hl) z
   refine wpAny_pyNext_dict_end O.handled (i := k) ⟨o, h1, h2, by rw [b.length]; exact h3⟩ hD (by
    have := b.length
    rw [List.length_map] at hk
    rw [List.getElem?_eq_none_iff]; one_sign) fun h' he => ?_
   obtain ⟨S', kp⟩ := S.dropBut hf he
   exact ⟨rfl, S', .hp kp⟩)
  (by
   intro k H B A s S
   obtain ⟨o, h1, _, h2, h3⟩ := raw_at S (Hp.set_self ..)
   exact wpAny_pyIter_keyiter (i := k) ⟨o, h1, h2, h3⟩ ⟨rfl, rfl⟩)
theorem Itr.dict {d : Addr} {l : List (D × D)} {ep : Nat} (hl : H d = some (pinX G.w.params l ep)) (z : knodB l = true) : Itr G n H (.ref d) isTgt H (l.map (·.1)) fun H => H d = some (pinX G.w.params l ep) := by
 intro s v i B A T O S
 obtain rfl := i.inv
 obtain ⟨kvs, hD, b⟩ := Ent.dictAt S hl z
 refine wpAny_pyIter_dict (S.off _ _ hl) hD ?_
 have kp := push_keeps s.heap { cls := .type "dict_keyiterator", data := .fields #[.ref d, .int 0 0, .int kvs.length 0, .int ep 0] }
 have hf := S.fresh (Nat.le_refl _)
 refine ⟨srcD s.heap.objs.size d l ep z, _, rfl, ?_, .hp (.keeps kp), rfl, rfl, rfl, hf, rfl⟩
 exact S.new (x := kitX d 0 l.length ep) kp (Nat.le_refl _) ⟨_, Heap.get?_push_size _ rfl, rfl, rfl, by rw [b.length]; rfl⟩
end
end
section
set_option tactic.hygienic false
section
variable {G : Gd} {n : Nat} {H : Hp} {env : Env} {m : Loc}
end
end
section
set_option tactic.hygienic false
section
variable {G : Gd} {n : Nat} {H : Hp} {env : Env} {m : Loc}
theorem Got.cutB {L : Addr} {x : X} {Q : Bool → Prop} {B : Heap} {s s' : Shared} {v : Bool} (h : Got Same G B s (FrQ L x fun d' H' => Sub H H' ∧ Q d') v s') (hL : H L = none) : Got Same G B s (FrQ L x fun d' H' => H' = H ∧ Q d') v s' := by
 obtain ⟨d', _, a, b, c, H'', rfl, hL', q, e⟩ := h
 refine ⟨d', _, a, b.forget fun y z w => ?_, c, H, rfl, hL, rfl, e⟩
 by_cases e : y = L
 ·subst e; rw [Hp.set_self] at w ⊢; exact w
 ·rw [Hp.set_ne _ _ e] at w ⊢; exact q y z w
theorem EvB.p {e : Expr} {b : Bool} (h : EvB G n env m H e fun b' H' => Sub H H' ∧ b' = b) : EvPB G n env m H e b := ⟨fun s hL B A T O S => wpAny_mono (h s hL B A T O S) (fun _ _ g => by
 obtain ⟨d', _, a, b, c, H'', e, hL', q, r⟩ := g.cutB (Q := fun b' => b' = b) hL
 exact ⟨d', _, a, b, c, H'', e, hL', r, q⟩) fun _ _ z => z⟩
theorem zip_nil_dk {l : List D} : ((l.zip []).all fun p => dk p.1 p.2) = true := by rw [List.zip_nil_right]; rfl
theorem leq_nil (l : List D) : leq l [] = l.isEmpty := by cases l <;> rfl
theorem ItemP.last {a : Addr} {l : List D} {d : D} (ha : H a = some (.lst l)) (hd : l.getLast? = some d) (hz : l.length < 2 ^ 62) : ItemP G n H (.ref a) (.int (-1)) d := by
 have hne : l ≠ [] := by rintro rfl; cases hd
 have hp := List.length_pos_iff.mpr hne
 exact ⟨Item.lstN (LstAt.own ha) (by decide) (by one_sign) (by
  rw [List.getLast?_eq_getElem?] at hd
  rw [show (-1 + (l.length : Int)).toNat = l.length - 1 by one_sign]; exact hd) hz ⟨rfl, rfl⟩⟩
end
end
section
set_option tactic.hygienic false
section
variable {G : Gd} {n : Nat} {H : Hp} {env : Env} {m : Loc}
end
end
section
set_option tactic.hygienic false
theorem ints_of {h : Heap} : ∀ {l : List Int} {vs : List Value}, IsL h vs (l.map .int) → ∃ ts : List Tok, vs = (l.zip ts).map (fun p => .int p.1 p.2) ∧ ts.length = l.length
 | [], _, i => ⟨[], i.inv, rfl⟩
 | x :: l, _, i => by
  obtain ⟨v, ws, rfl, a, b⟩ := i.inv
  obtain ⟨t, rfl⟩ := a.inv
  obtain ⟨ts, rfl, e⟩ := ints_of b
  exact ⟨t :: ts, rfl, by simp [e]⟩
section
variable {G : Gd} {n : Nat} {H : Hp} {Q : D → Hp → Prop}
theorem Bin.pow2 {b : Nat} (hb : b ≤ 60) (q : Q (.int ((2 ^ b : Nat) : Int)) H) : Bin G n H .Pow (.int 2) (.int (b : Int)) Q := fun s v w i j B A T O S => by
 replace i := i.inv; obtain ⟨t, rfl⟩ := i
 replace j := j.inv; obtain ⟨u, rfl⟩ := j
 by_cases z : b = 0
 ·subst z
  exact AutoIntOps.pow_0 (by decide) (by decide) ⟨_, _, .int _ _, S, .tok, q⟩
 ·refine AutoIntOps.pow_4 (by one_sign) (by simp; one_sign) (by decide) (by decide) ?_ ?_
  ·have : ∀ b : Fin 61, ¬ Builtin.Int.intTooBig (((Builtin.Int.intBits 2 : Nat) : Int) * (b.val : Int)) = true := by decide +kernel
   exact this ⟨b, by one_sign⟩
  ·have e : (2 : Int) ^ ((b : Int)).toNat = ((2 ^ b : Nat) : Int) := by rw [Int.toNat_natCast]; simp
   show Made.post (Made.int ((2 : Int) ^ ((b : Int)).toNat)) _ _
   rw [e]
   exact ⟨_, _, .int _ _, S, .tok, q⟩
theorem Cal.max2 {a b : Int} (q : Q (.int (max a b)) H) : Cal G n H (.builtin "max") [.int a, .int b] Q := fun s vs i B A T O S => by
 replace i := i.inv; obtain ⟨_, _, rfl, i, j⟩ := i
 replace j := j.inv; obtain ⟨_, _, rfl, j, k⟩ := j
 obtain rfl := k.inv
 replace i := i.inv; obtain ⟨t, rfl⟩ := i
 replace j := j.inv; obtain ⟨u, rfl⟩ := j
 refine PySem.Flt.max_two_num O.handled (.int _ _) (.int _ _) fun h' tk kp => ?_
 have S' := S.keeps kp
 show Got Is G B s Q (if decide (a < b) = true then .int b u else .int a t) _
 by_cases z : a < b
 ·rw [if_pos (decide_eq_true z)]
  rw [Int.max_eq_right (by one_sign)] at q
  exact ⟨_, _, .int _ _, S', .mk' (.keeps kp), q⟩
 ·rw [if_neg (by simpa using z)]
  rw [Int.max_eq_left (by one_sign)] at q
  exact ⟨_, _, .int _ _, S', .mk' (.keeps kp), q⟩
theorem preSum_take (l : List Int) (ts : List Tok) (e : ts.length = l.length) : ∀ k, k ≤ l.length → preSum (numAt (l.zip ts).toArray) k = (l.take k).sum
 | 0, _ => by simp [preSum]
 | k + 1, hk => by
  have e2 : l.take (k + 1) = l.take k ++ [l[k]'(by one_sign)] := by rw [List.take_add_one, List.getElem?_eq_getElem (by one_sign)]; rfl
  have : numAt (l.zip ts).toArray k = l[k]'(by one_sign) := by
   unfold numAt
   rw [List.getElem?_toArray, List.getElem?_eq_getElem (by rw [List.length_zip]; one_sign)]
   simp
  show preSum (numAt (l.zip ts).toArray) k + numAt (l.zip ts).toArray k = _
  rw [preSum_take l ts e k (by one_sign), e2, List.sum_append, this]; simp
theorem Cal.sum {a : Addr} {l : List Int} (ha : H a = some (.lst (l.map .int))) (q : Q (.int l.sum) H) : Cal G n H (.builtin "sum") [.ref a] Q := fun s vs i B A T O S => by
 replace i := i.inv; obtain ⟨_, _, rfl, i, j⟩ := i
 obtain rfl := j.inv
 obtain rfl := i.inv
 obtain ⟨_, vs, t, ii⟩ := S.own _ _ ha
 obtain ⟨ts, rfl, e⟩ := ints_of ii
 have hl : s.heap.IsList a (intItems (l.zip ts).toArray) := by unfold intItems; rw [List.map_toArray]; exact t.isList
 refine sum_intListG O.handled hl fun h' tk t' kp => ?_
 have es : preSum (numAt (l.zip ts).toArray) (l.zip ts).toArray.size = l.sum := by
  rw [List.size_toArray, List.length_zip, e, Nat.min_self, preSum_take l ts e _ (Nat.le_refl _), List.take_length]
 rw [es]
 exact ⟨_, _, .int _ _, S.keeps kp, .mk' (.keeps kp), q⟩
theorem Cal.extend {a b : Addr} {l r : List D} (ha : H a = some (.lst l)) (hb : H b = some (.lst r)) (hz : l.length + r.length ≤ 1000) (q : Q .none (H.set a (.lst (l ++ r)))) : Cal G n H (.builtin "list.extend") [.ref a, .ref b] Q := fun s vs i B A T O S => by
 replace i := i.inv; obtain ⟨_, _, rfl, i, j⟩ := i
 replace j := j.inv; obtain ⟨_, _, rfl, j, k⟩ := j
 obtain rfl := k.inv
 obtain rfl := i.inv
 obtain rfl := j.inv
 obtain ⟨_, vs, ⟨c1, t1⟩, i1⟩ := S.own _ _ ha
 obtain ⟨_, ws, ⟨c2, t2⟩, i2⟩ := S.own _ _ hb
 have l1 := i1.length
 have l2 := i2.length
 refine call_meets PySem.F.slot_list_extend (s := s) ⟨_, t1, rfl⟩ PySem.F.entry_list_extend (PySem.F.args_list_extend_2 _ _) (AutoSeq1.list_extend_list_list_0 a vs.toArray c1 b ws.toArray c2 ?_ (by rw [List.size_toArray, sizeLine_eq]; one_sign) (by rw [List.size_toArray, List.size_toArray, sizeLine_eq]; one_sign)) ⟨t1, t2, ?_⟩
 ·unfold Builtin.List.listTooLong
  rw [List.size_toArray, List.size_toArray, sizeLine_eq]
  simp; intro _; one_sign
 ·have hs : Heap.SameBut a s.heap (s.heap.update a (Obj.mapSeq fun x => x ++ ws.toArray)) := Heap.SameBut.update ..
  have kp := S.tupBut ha hs
  have e3 : vs.toArray ++ ws.toArray = (vs ++ ws).toArray := by simp
  have pl : (s.heap.update a (Obj.mapSeq fun x => x ++ ws.toArray)).PlainList a (vs ++ ws).toArray := by
   rw [← e3]
   exact ⟨_, Heap.get?_update_self (Obj.mapSeq fun x => x ++ ws.toArray) t1 rfl⟩
  exact ⟨_, _, .none, S.upd (x' := .lst (l ++ r)) ha hs ⟨vs ++ ws, pl, (i1.mono kp).append (i2.mono kp)⟩, .mk' kp, q⟩
end
end
section
set_option tactic.hygienic false
open Builtin
theorem zip_no_len : typeLookup (.type "zip") "__len__" = pure none := by rw [typeLookup_type, builtinLookup_eq_fast]; kernel_rfl
theorem zip_no_hint : typeLookup (.type "zip") "__length_hint__" = pure none := by rw [typeLookup_type, builtinLookup_eq_fast]; kernel_rfl
noncomputable def IsZipB (h : Heap) (z TI TO : Addr) (f0 : Value) (b : Bool) : Prop := h.get? z = some { cls := .type "zip", dict := none, data := .fields #[f0, .bool b, .bool false, .ref TI, .ref TO], slots := #[] }
section
variable {prog : Program} {w : World} {A : Around} {E : Value → Shared → Prop} {s : Shared} {z TI TO i1 i2 l1 l2 T : Addr} {k : Nat} {xs ys : Array Value} {b : Bool}
theorem zip_more (D : ZipApart z TI TO i1 i2 l1 l2) {x y : Value} {Q : Value → Shared → Prop} (hz : IsZipB s.heap z TI TO (rawInt T) b) (hT : ∃ o, s.heap.get? T = some o) (hTI : IsPair s.heap TI (.ref i1) (.ref i2))
  (h1 : s.heap.IsListIter i1 l1 k) (h2 : s.heap.IsListIter i2 l2 k) (hl1 : s.heap.IsList l1 xs) (hl2 : s.heap.IsList l2 ys) (hx : xs[k]? = some x) (hy : ys[k]? = some y)
  (hQ : ∀ h' T', IsZipB h' z TI TO (rawInt T) true → h'.IsListIter i1 l1 (k + 1) → h'.IsListIter i2 l2 (k + 1) → IsPair h' T' x y → s.heap.objs.size ≤ T' → (∀ c o, c ≠ z → c ≠ i1 → c ≠ i2 → s.heap.get? c = some o → h'.get? c = some o) → Q (.ref T') { s with heap := h' }) :
  wpAny (model prog w) A (Builtin.«zip.__next__» ⟨[.ref z], []⟩) (fun fin s' => ∃ v, fin = .done (.ret v) ∧ Q v s') E s := by
 show wpAny _ _ (field (.ref z) 2 >>= _) _ _ _
 refine wpAny_bind (wpAny_field hz rfl (x := .bool false) rfl ?_)
 show wpAny _ _ (field (.ref z) 3 >>= _) _ _ _
 refine wpAny_bind (wpAny_field hz rfl (x := .ref TI) rfl (wpAny_bind (wpAny_seqItems hTI rfl ?_)))
 show wpAny _ _ (SmallTypes.ownedTupleIsFree (.ref z) >>= _) _ _ _
 refine wpAny_bind (m := SmallTypes.ownedTupleIsFree (.ref z)) (wpAny_mono (Q := fun r s' => r = false ∧ ∃ h₀, s' = { s with heap := h₀ } ∧ IsZipB h₀ z TI TO (rawInt T) true ∧ Heap.SameBut z s.heap h₀) ?free ?rest (fun _ _ e => e))
 case free =>
  unfold SmallTypes.ownedTupleIsFree
  refine wpAny_bind (wpAny_field hz rfl (x := rawInt T) rfl ?_)
  obtain ⟨oT, hoT⟩ := hT
  show wpAny _ _ (loadIfAlive ((T : Int)).toNat >>= _) _ _ _
  rw [Int.toNat_natCast]
  refine wpAny_bind (kdx_alive hoT ?_)
  show wpAny _ _ (field (.ref z) 1 >>= _) _ _ _
  refine wpAny_bind (wpAny_field hz rfl (x := .bool b) rfl ?_)
  cases b with
  | true => exact wpAny_pure ⟨rfl, _, rfl, hz, Heap.SameBut.refl _ _⟩
  | false => exact wpAny_bind (wpAny_setField_rec hz (by simp) fun h₁ hz1 hs1 => wpAny_pure ⟨rfl, _, rfl, hz1, hs1⟩)
 case rest =>
  rintro _ _ ⟨rfl, h₀, rfl, hz0, hs0⟩
  simp only [Bool.false_eq_true, if_false, ← Array.forIn_toList, List.forIn_cons, List.forIn_nil]
  refine wpAny_bind (wpAny_bind (wpAny_bind (wpAny_holding ?_)))
  show wpAny _ _ (SmallTypes.nextOf (.ref i1) >>= _) _ _ _
  refine wpAny_bind (wpAny_nextOf_list_item (h1.extBut hs0.extBut D.i1z) (hl1.extBut hs0.extBut D.l1z) hx fun h₂ g1 b2 => wpAny_pure ?_)
  refine wpAny_pure ?_
  refine wpAny_bind (wpAny_bind (wpAny_holding ?_))
  show wpAny _ _ (SmallTypes.nextOf (.ref i2) >>= _) _ _ _
  refine wpAny_bind (wpAny_nextOf_list_item ((h2.extBut hs0.extBut D.i2z).extBut b2.extBut D.i12.symm) ((hl2.extBut hs0.extBut D.l2z).extBut b2.extBut D.l2i1) hy fun h₃ g2 b3 => wpAny_pure ?_)
  refine wpAny_pure (wpAny_pure ?_)
  refine wpAny_bind (wpAny_newTuple (hsz := by rw [sizeLine_eq]; exact Nat.le_of_ble_eq_true rfl) ?_)
  have hz3 : IsZipB h₃ z TI TO (rawInt T) true := (b3.2 z D.i2z.symm).trans ((b2.2 z D.i1z.symm).trans hz0)
  have sz : h₃.objs.size = s.heap.objs.size := by rw [b3.1, b2.1, hs0.1]
  have up := @Heap.get?_push_of_some
  exact wpAny_pure ⟨_, rfl, hQ _ h₃.objs.size (up _ hz3) ((g1.extBut b3.extBut D.i12).at fun o e => up _ e) (g2.at fun o e => up _ e) (Heap.get?_push_size _ rfl) (Nat.le_of_eq sz.symm) fun c o c1 c2 c3 e => up _ ((b3.2 c c3).trans ((b2.2 c c2).trans ((hs0.2 c c1).trans e)))⟩
theorem zip_more_end (hh : A.handled = none) (D : ZipApart z TI TO i1 i2 l1 l2) {Q : Fin → Shared → Prop} (hz : IsZipB s.heap z TI TO (rawInt T) b) (hT : ∃ o, s.heap.get? T = some o) (hTI : IsPair s.heap TI (.ref i1) (.ref i2))
  (h1 : s.heap.IsListIter i1 l1 k) (hl1 : s.heap.IsList l1 xs) (hx : xs[k]? = none)
  (hE : ∀ h' e, (∀ c o, c ≠ z → c ≠ i1 → s.heap.get? c = some o → h'.get? c = some o) → (∃ o, h'.get? e = some o ∧ o.cls = .type "StopIteration") → E (.ref e) { s with heap := h' }) :
  wpAny (model prog w) A (Builtin.«zip.__next__» ⟨[.ref z], []⟩) Q E s := by
 show wpAny _ _ (field (.ref z) 2 >>= _) _ _ _
 refine wpAny_bind (wpAny_field hz rfl (x := .bool false) rfl ?_)
 show wpAny _ _ (field (.ref z) 3 >>= _) _ _ _
 refine wpAny_bind (wpAny_field hz rfl (x := .ref TI) rfl (wpAny_bind (wpAny_seqItems hTI rfl ?_)))
 show wpAny _ _ (SmallTypes.ownedTupleIsFree (.ref z) >>= _) _ _ _
 refine wpAny_bind (m := SmallTypes.ownedTupleIsFree (.ref z)) (wpAny_mono (Q := fun r s' => r = false ∧ ∃ h₀, s' = { s with heap := h₀ } ∧ Heap.SameBut z s.heap h₀) ?free ?rest (fun _ _ e => e))
 case free =>
  unfold SmallTypes.ownedTupleIsFree
  refine wpAny_bind (wpAny_field hz rfl (x := rawInt T) rfl ?_)
  obtain ⟨oT, hoT⟩ := hT
  show wpAny _ _ (loadIfAlive ((T : Int)).toNat >>= _) _ _ _
  rw [Int.toNat_natCast]
  refine wpAny_bind (kdx_alive hoT ?_)
  show wpAny _ _ (field (.ref z) 1 >>= _) _ _ _
  refine wpAny_bind (wpAny_field hz rfl (x := .bool b) rfl ?_)
  cases b with
  | true => exact wpAny_pure ⟨rfl, _, rfl, Heap.SameBut.refl _ _⟩
  | false => exact wpAny_bind (wpAny_setField_rec hz (by simp) fun h₁ hz1 hs1 => wpAny_pure ⟨rfl, _, rfl, hs1⟩)
 case rest =>
  rintro _ _ ⟨rfl, h₀, rfl, hs0⟩
  simp only [Bool.false_eq_true, if_false, ← Array.forIn_toList, List.forIn_cons, List.forIn_nil]
  refine wpAny_bind (wpAny_bind (wpAny_bind (wpAny_holding ?_)))
  show wpAny _ _ (SmallTypes.nextOf (.ref i1) >>= _) _ _ _
  exact wpAny_bind (wpAny_nextOf_list_end hh (h1.extBut hs0.extBut D.i1z) (hl1.extBut hs0.extBut D.l1z) hx fun h₂ e b2 he => hE h₂ e (fun c o c1 c2 x => b2 c o c2 ((hs0.2 c c1).trans x)) he)
theorem next_zip_more (D : ZipApart z TI TO i1 i2 l1 l2) {x y : Value} {Q : Option Value → Shared → Prop} (hz : IsZipB s.heap z TI TO (rawInt T) b) (hT : ∃ o, s.heap.get? T = some o) (hTI : IsPair s.heap TI (.ref i1) (.ref i2))
  (h1 : s.heap.IsListIter i1 l1 k) (h2 : s.heap.IsListIter i2 l2 k) (hl1 : s.heap.IsList l1 xs) (hl2 : s.heap.IsList l2 ys) (hx : xs[k]? = some x) (hy : ys[k]? = some y)
  (hQ : ∀ h' T', IsZipB h' z TI TO (rawInt T) true → h'.IsListIter i1 l1 (k + 1) → h'.IsListIter i2 l2 (k + 1) → IsPair h' T' x y → s.heap.objs.size ≤ T' → (∀ c o, c ≠ z → c ≠ i1 → c ≠ i2 → s.heap.get? c = some o → h'.get? c = some o) → Q (some (.ref T')) { s with heap := h' }) :
  wpAny (model prog w) A (pyNext (.ref z)) Q E s := by
 have hTy : s.TypeIs (.ref z) "zip" := ⟨_, hz, rfl⟩
 unfold pyNext
 exact wpAny_bind (wpAny_attempt (wpAny_callSpecial?_slot (name := Str.ofString "__next__") hTy F.slot_zip_next
  (wpAny_call_entry F.slot_zip_next hTy F.entry_zip_next (zip_more D hz hT hTI h1 h2 hl1 hl2 hx hy fun h' T' a1 a2 a3 a4 a5 a6 => wpAny_pure (hQ h' T' a1 a2 a3 a4 a5 a6)) (F.args_zip_next_1 _))))
theorem next_zip_more_end (hh : A.handled = none) (D : ZipApart z TI TO i1 i2 l1 l2) {Q : Option Value → Shared → Prop} (hz : IsZipB s.heap z TI TO (rawInt T) b) (hT : ∃ o, s.heap.get? T = some o) (hTI : IsPair s.heap TI (.ref i1) (.ref i2))
  (h1 : s.heap.IsListIter i1 l1 k) (hl1 : s.heap.IsList l1 xs) (hx : xs[k]? = none) (hQ : ∀ h', (∀ c o, c ≠ z → c ≠ i1 → s.heap.get? c = some o → h'.get? c = some o) → Q none { s with heap := h' }) : wpAny (model prog w) A (pyNext (.ref z)) Q E s := by
 have hTy : s.TypeIs (.ref z) "zip" := ⟨_, hz, rfl⟩
 unfold pyNext
 refine wpAny_bind (wpAny_attempt (wpAny_callSpecial?_slot (name := Str.ofString "__next__") hTy F.slot_zip_next
  (wpAny_call_entry F.slot_zip_next hTy F.entry_zip_next (zip_more_end (A := A.in1) hh D hz hT hTI h1 hl1 hx fun h' e hk he => ?_) (F.args_zip_next_1 _))))
 obtain ⟨o, ho, hc⟩ := he
 exact wpAny_bind (wpAny_isInstance (T := "StopIteration") (b := true) ⟨o, ho, hc⟩ isSubtype_stop (wpAny_pure (hQ _ hk)))
end
structure LZ (h : Heap) (z TI TO i1 i2 l1 l2 S : Addr) (xs ys : Array Value) (k : Nat) (ts : List Addr) : Prop where
 pz : (k = 0 ∧ IsZip h z TI TO .none) ∨ ∃ (T : Addr) (b : Bool), ts[0]? = some T ∧ IsZipB h z TI TO (rawInt T) b
 pTI : IsPair h TI (.ref i1) (.ref i2)
 pTO : ∃ a b, IsPair h TO a b
 p1 : h.IsListIter i1 l1 k
 p2 : h.IsListIter i2 l2 k
 pl1 : h.IsList l1 xs
 pl2 : h.IsList l2 ys
 pS : ∃ c, h.get? S = some { cls := .type "list", dict := none, data := .seq (ts.map Value.ref).toArray c, slots := #[] }
 len : ts.length = k
 it : ∀ (j : Nat) (T : Addr), ts[j]? = some T → ∃ x y, xs[j]? = some x ∧ ys[j]? = some y ∧ IsPair h T x y
section
variable {prog : Program} {w : World} {A : Around} {E : Value → Shared → Prop} {z TI TO i1 i2 l1 l2 Sa : Addr} {xs ys : Array Value} {N : Nat}
structure LZA (z TI TO i1 i2 l1 l2 Sa : Addr) (N : Nat) : Prop where
 D : ZipApart z TI TO i1 i2 l1 l2
 nz : N ≤ z
 nTO : N ≤ TO
 ni1 : N ≤ i1
 ni2 : N ≤ i2
 nS : N ≤ Sa
 Sz : Sa ≠ z
 STO : Sa ≠ TO
 Si1 : Sa ≠ i1
 Si2 : Sa ≠ i2
 STI : Sa ≠ TI
 Sl1 : Sa ≠ l1
 Sl2 : Sa ≠ l2
theorem pair_zip {h : Heap} {T : Addr} {x y f : Value} {b : Bool} (p : IsPair h T x y) (q : IsZipB h z TI TO f b) : T ≠ z := fun e => by
 subst e; unfold IsZipB at q; rw [p] at q
 have h3 : Value.type "tuple" = Value.type "zip" := congrArg Obj.cls (Option.some.inj q)
 exact absurd h3 (by decide)
theorem pair_iter {h : Heap} {T l : Addr} {x y : Value} {k : Nat} (p : IsPair h T x y) (q : h.IsListIter i1 l k) : T ≠ i1 := fun e => by
 subst e
 obtain ⟨o, h1, h2, _⟩ := q
 rw [p] at h1; cases h1
 have h3 : Value.type "tuple" = Value.type "list_iterator" := h2
 exact absurd h3 (by decide)
theorem pair_list {h : Heap} {T : Addr} {x y : Value} {a : Array Value} {c : Nat} (p : IsPair h T x y) (q : h.get? Sa = some { cls := .type "list", dict := none, data := .seq a c, slots := #[] }) : T ≠ Sa := fun e => by
 subst e
 rw [p] at q
 have h3 : Value.type "tuple" = Value.type "list" := congrArg Obj.cls (Option.some.inj q)
 exact absurd h3 (by decide)
theorem lz_loop (hh : A.handled = none) (Z : LZA z TI TO i1 i2 l1 l2 Sa N) (hxy : xs.size = ys.size) (h0 : 0 < xs.size) (hz : xs.size ≤ 1000) {B : Heap} {R : Result → Shared → Prop} {s₀ : Shared} : ∀ (j k : Nat) {s : Shared} {ts : List Addr}, k + j = xs.size → LZ s.heap z TI TO i1 i2 l1 l2 Sa xs ys k ts →
  (∀ b o, B.get? b = some o → s.heap.get? b = some o) → (∀ b o, B.get? b = some o → b < N) → N ≤ s.heap.objs.size → (s.gens = s₀.gens ∧ s.drawn = s₀.drawn ∧ s.os = s₀.os) →
  (∀ (s' : Shared) (ts' : List Addr), (∃ c, s'.heap.get? Sa = some { cls := .type "list", dict := none, data := .seq (ts'.map Value.ref).toArray c, slots := #[] }) → ts'.length = xs.size → (∀ (j : Nat) (T : Addr), ts'[j]? = some T → ∃ x y, xs[j]? = some x ∧ ys[j]? = some y ∧ IsPair s'.heap T x y) →
   (∀ b o, B.get? b = some o → s'.heap.get? b = some o) → (s'.gens = s₀.gens ∧ s'.drawn = s₀.drawn ∧ s'.os = s₀.os) → R (.ok (.ret .none)) s') →
  codeAny (model prog w) A (.builtin "list.extend.loop" ⟨[.ref Sa, .ref z, .none], []⟩) R s := by
 intro j
 induction j with
 | zero =>
  intro k s ts hk L hB hN hNs hs hR
  have hk0 : k ≠ 0 := by one_sign
  obtain ⟨T, b, t0, hzB⟩ : ∃ (T : Addr) (b : Bool), ts[0]? = some T ∧ IsZipB s.heap z TI TO (rawInt T) b := by
   rcases L.pz with ⟨e, _⟩ | h
   ·exact absurd e hk0
   ·exact h
  have hT : ∃ o, s.heap.get? T = some o := let ⟨_, _, _, _, p⟩ := L.it 0 T t0; ⟨_, p⟩
  refine codeAny_builtin F.entry_extend_loop ?_
  rw [Around.under_plainId F.plain_extend_loop _]
  show wpAny _ A.in1 (pyNext (.ref z) >>= _) _ _ s
  refine wpAny_bind (next_zip_more_end (A := A.in1) hh Z.D hzB hT L.pTI L.p1 L.pl1 (Array.getElem?_eq_none (by one_sign)) fun h' hk' => ?_)
  obtain ⟨c, hc⟩ := L.pS
  refine wpAny_pure (hR _ ts ⟨c, hk' _ _ Z.Sz Z.Si1 hc⟩ (by rw [L.len]; one_sign) (fun j T q => ?_) (fun b o e => ?_) hs)
  ·obtain ⟨x, y, a1, a2, a3⟩ := L.it j T q
   exact ⟨x, y, a1, a2, hk' _ _ (pair_zip a3 hzB) (pair_iter a3 L.p1) a3⟩
  ·have := hN b o e
   exact hk' b o (Nat.ne_of_lt (Nat.lt_of_lt_of_le this Z.nz)) (Nat.ne_of_lt (Nat.lt_of_lt_of_le this Z.ni1)) (hB b o e)
 | succ j ih =>
  intro k s ts hk L hB hN hNs hs hR
  have hkx : k < xs.size := by one_sign
  have hx : xs[k]? = some xs[k] := Array.getElem?_eq_getElem hkx
  have hy : ys[k]? = some (ys[k]'(by one_sign)) := Array.getElem?_eq_getElem (by one_sign)
  refine codeAny_builtin F.entry_extend_loop ?_
  rw [Around.under_plainId F.plain_extend_loop _]
  show wpAny _ A.in1 (pyNext (.ref z) >>= _) _ _ s
  obtain ⟨c, hc⟩ := L.pS
  have hSlt : Sa < s.heap.objs.size := Heap.lt_size hc
  have step : ∀ (h' : Heap) (T' : Addr), (∃ (T : Addr) (b : Bool), (ts ++ [T'])[0]? = some T ∧ IsZipB h' z TI TO (rawInt T) b) → h'.IsListIter i1 l1 (k + 1) → h'.IsListIter i2 l2 (k + 1) → IsPair h' T' xs[k] (ys[k]'(by one_sign)) → s.heap.objs.size ≤ T' → (∃ a b, IsPair h' TO a b) →
    (∀ c o, c ≠ z → c ≠ TO → c ≠ i1 → c ≠ i2 → s.heap.get? c = some o → h'.get? c = some o) → (∀ (j : Nat) (T : Addr), ts[j]? = some T → ∃ x y, xs[j]? = some x ∧ ys[j]? = some y ∧ IsPair h' T x y) →
    wpAny (model prog w) A.in1 (updateSeq Sa (·.push (.ref T')) >>= fun _ => again (.builtin "list.extend.loop" ⟨[.ref Sa, .ref z, .none], []⟩))
     (fun fin s' => match fin with | .done f => R (.ok f) s' | .again c' => c'.quiet = true ∧ codeAny (model prog w) A c' R s') (fun e s' => R (.error e) s') { s with heap := h' } := by
   intro h' T' pz p1 p2 pT hT' pTO kp its
   have hc' := kp _ _ Z.Sz Z.STO Z.Si1 Z.Si2 hc
   have hST : Sa ≠ T' := Nat.ne_of_lt (Nat.lt_of_lt_of_le hSlt hT')
   refine wpAny_bind (wpAny_updateSeq (hz := by simp; rw [L.len, sizeLine_eq]; one_sign) (_hz' := by simp; rw [L.len, sizeLine_eq]; one_sign) hc' rfl (wpAny_pure ⟨plainId_quiet F.plain_extend_loop _, ?_⟩))
   have oth : ∀ b o, b ≠ Sa → h'.get? b = some o → (h'.update Sa (Obj.mapSeq (·.push (.ref T')))).get? b = some o := fun b o hb e => (Heap.get?_update_other _ _ (Ne.symm hb)).trans e
   refine ih (k + 1) (ts := ts ++ [T']) (by one_sign) ⟨?_, ?_, ?_, ?_, ?_, ?_, ?_, ?_, ?_, ?_⟩ (fun b o e => ?_) hN ?_ hs hR
   ·obtain ⟨T, b, e1, e2⟩ := pz
    exact .inr ⟨T, b, e1, oth _ _ Z.Sz.symm e2⟩
   ·exact oth _ _ Z.STI.symm (kp _ _ Z.D.TIz Z.D.TITO Z.D.TIi1 Z.D.TIi2 L.pTI)
   ·obtain ⟨a, b, e⟩ := pTO; exact ⟨a, b, oth _ _ Z.STO.symm e⟩
   ·exact p1.at fun o e => oth _ _ Z.Si1.symm e
   ·exact p2.at fun o e => oth _ _ Z.Si2.symm e
   ·exact L.pl1.at fun o e => oth _ _ Z.Sl1.symm (kp _ _ Z.D.l1z Z.D.l1TO Z.D.l1i1 Z.D.l1i2 e)
   ·exact L.pl2.at fun o e => oth _ _ Z.Sl2.symm (kp _ _ Z.D.l2z Z.D.l2TO Z.D.l2i1 Z.D.l2i2 e)
   ·have := Heap.get?_update_self (Obj.mapSeq (·.push (Value.ref T'))) hc' rfl
    have e : ((ts ++ [T']).map Value.ref).toArray = (ts.map Value.ref).toArray.push (.ref T') := by simp
    rw [e]
    exact ⟨_, this⟩
   ·rw [List.length_append, L.len]; rfl
   ·intro j T q
    by_cases e : j < ts.length
    ·rw [List.getElem?_append_left e] at q
     obtain ⟨x, y, a1, a2, a3⟩ := its j T q
     exact ⟨x, y, a1, a2, oth _ _ (pair_list a3 hc') a3⟩
    ·have hj : j = ts.length := by
      have := (List.getElem?_eq_some_iff.mp q).1
      rw [List.length_append] at this; simp at this; one_sign
     subst hj
     rw [List.getElem?_append_right (Nat.le_refl _)] at q
     simp at q
     subst q
     rw [L.len]
     exact ⟨_, _, hx, hy, oth _ _ hST.symm pT⟩
   ·have lb := hN b o e
    exact oth _ _ (Nat.ne_of_lt (Nat.lt_of_lt_of_le lb Z.nS)) (kp b o (Nat.ne_of_lt (Nat.lt_of_lt_of_le lb Z.nz)) (Nat.ne_of_lt (Nat.lt_of_lt_of_le lb Z.nTO)) (Nat.ne_of_lt (Nat.lt_of_lt_of_le lb Z.ni1)) (Nat.ne_of_lt (Nat.lt_of_lt_of_le lb Z.ni2)) (hB b o e))
   ·have : Sa < (h'.update Sa (Obj.mapSeq (·.push (Value.ref T')))).objs.size := Heap.lt_size (Heap.get?_update_self (Obj.mapSeq (·.push (Value.ref T'))) hc' rfl)
    exact Nat.le_of_lt (Nat.lt_of_le_of_lt Z.nS this)
  rcases L.pz with ⟨e0, hz0⟩ | ⟨T, b, t0, hzB⟩
  ·obtain ⟨a, b, hTO⟩ := L.pTO
   have hts : ts = [] := List.length_eq_zero_iff.mp (by rw [L.len]; exact e0)
   refine wpAny_bind (wpAny_pyNext_zip_item Z.D hz0 L.pTI hTO L.p1 L.p2 L.pl1 L.pl2 hx hy fun h' q1 q2 q3 q4 q5 q6 q7 => ?_)
   exact step h' s.heap.objs.size ⟨s.heap.objs.size, false, by rw [hts]; rfl, q1⟩ q3 q4 q5 (Nat.le_refl _) ⟨_, _, q2⟩ q7 (fun j T q => by rw [hts] at q; cases q)
  ·have hT : ∃ o, s.heap.get? T = some o := let ⟨_, _, _, _, p⟩ := L.it 0 T t0; ⟨_, p⟩
   refine wpAny_bind (next_zip_more Z.D hzB hT L.pTI L.p1 L.p2 L.pl1 L.pl2 hx hy fun h' T' q1 q2 q3 q4 q5 q6 => ?_)
   refine step h' T' ⟨T, true, by rw [List.getElem?_append_left (List.getElem?_eq_some_iff.mp t0).1]; exact t0, q1⟩ q2 q3 q4 q5 ?_ (fun c o c1 _ c3 c4 e => q6 c o c1 c3 c4 e) (fun j T q => ?_)
   ·obtain ⟨a, b, hTO⟩ := L.pTO
    exact ⟨a, b, q6 _ _ Z.D.TOz Z.D.TOi1 Z.D.TOi2 hTO⟩
   ·obtain ⟨x, y, a1, a2, a3⟩ := L.it j T q
    exact ⟨x, y, a1, a2, q6 _ _ (pair_zip a3 hzB) (pair_iter a3 L.p1) (pair_iter a3 L.p2) a3⟩
end
end
section
set_option tactic.hygienic false
open Builtin
section
variable {prog : Program} {w : World} {A : Around} {E : Value → Shared → Prop} {s : Shared}
theorem call_list_zip {a1 a2 : Addr} {xs ys : Array Value} {Q : Value → Shared → Prop} (hh : A.handled = none) (hl1 : s.heap.IsList a1 xs) (hl2 : s.heap.IsList a2 ys) (hxy : xs.size = ys.size) (h0 : 0 < xs.size) (hz : xs.size ≤ 1000)
  (hQ : ∀ (s' : Shared) (L : Addr) (ts : List Addr), s.heap.objs.size ≤ L → (∃ c, s'.heap.get? L = some { cls := .type "list", dict := none, data := .seq (ts.map Value.ref).toArray c, slots := #[] }) → ts.length = xs.size →
   (∀ (j : Nat) (T : Addr), ts[j]? = some T → ∃ x y, xs[j]? = some x ∧ ys[j]? = some y ∧ IsPair s'.heap T x y) → (∀ b o, s.heap.get? b = some o → s'.heap.get? b = some o) → (s'.gens = s.gens ∧ s'.drawn = s.drawn ∧ s'.os = s.os) → Q (.ref L) s') :
  wpAny (model prog w) A (call (.type "zip") [.ref a1, .ref a2]) (fun v s₁ => wpAny (model prog w) A (call (.type "list") [v]) Q E s₁) E s := by
 have lt1 : @LT.lt Nat _ a1 s.heap.objs.size := by obtain ⟨o, e, _⟩ := id hl1; exact Heap.lt_size e
 have lt2 : @LT.lt Nat _ a2 s.heap.objs.size := by obtain ⟨o, e, _⟩ := id hl2; exact Heap.lt_size e
 refine call_zip_2 hl1 hl2 fun h' hzz hTI hTO hit1 hit2 hsz kp => ?_
 have Z : LZA (s.heap.objs.size + 4) (s.heap.objs.size + 2) (s.heap.objs.size + 3) s.heap.objs.size (s.heap.objs.size + 1) a1 a2 h'.objs.size s.heap.objs.size := by
  refine ⟨⟨?_, ?_, ?_, ?_, ?_, ?_, ?_, ?_, ?_, ?_, ?_, ?_, ?_, ?_, ?_, ?_, ?_, ?_⟩, ?_, ?_, ?_, ?_, ?_, ?_, ?_, ?_, ?_, ?_, ?_, ?_⟩ <;> first | (show ¬ ((_ : Nat) = _); one_sign) | (show (_ : Nat) ≤ _; one_sign)
 refine callType_codes (Q₁ := fun obj s₁ => obj = .ref h'.objs.size ∧ s₁ = { s with heap := h'.push { cls := .type "list", data := .seq #[] } }) F.called_list (F.typeCall_list_1 _) F.entry_list_init (code_list_new _ ⟨rfl, rfl⟩) fun obj s₁ h₁ => ?_
 obtain ⟨rfl, rfl⟩ := h₁
 have hS : (h'.push { cls := .type "list", data := .seq #[] }).get? h'.objs.size = some { cls := .type "list", data := .seq #[] } := Heap.get?_push_size _ rfl
 have zT : Shared.TypeIs { s with heap := h'.push { cls := .type "list", data := .seq #[] } } (.ref (s.heap.objs.size + 4)) "zip" := ⟨_, Heap.get?_push_of_some _ hzz, rfl⟩
 refine ⟨⟨_, hS, rfl⟩, F.args_list_init_2 _ _, ?_⟩
 show wpAny _ _ (do let old ← Builtin.List.listItems (.ref h'.objs.size); Builtin.List.listUpdate (.ref h'.objs.size) (fun _ => #[]); letGo old.toList.reverse; Builtin.List.listExtendWith (.ref h'.objs.size) (.ref (s.heap.objs.size + 4)) .none) _ _ _
 refine wpAny_bind ?_
 unfold Builtin.List.listItems
 refine wpAny_bind (wpAny_seqItems hS rfl (wpAny_pure ?_))
 show wpAny _ _ (updateSeq h'.objs.size (fun _ => #[]) >>= fun _ => letGo (#[] : Array Value).toList.reverse >>= fun _ => Builtin.List.listExtendWith (.ref h'.objs.size) (.ref (s.heap.objs.size + 4)) .none) _ _ _
 refine wpAny_bind (wpAny_updateSeq hS rfl ?_)
 have hS2 := Heap.get?_update_self (Obj.mapSeq (fun _ => (#[] : Array Value))) hS rfl
 have k2 : ∀ b o, b ≠ h'.objs.size → h'.get? b = some o → ((h'.push { cls := .type "list", data := .seq #[] }).update h'.objs.size (Obj.mapSeq (fun _ => (#[] : Array Value)))).get? b = some o :=
  fun b o hb e => (Heap.get?_update_other _ _ (Ne.symm hb)).trans (Heap.get?_push_of_some _ e)
 revert hS2 k2
 generalize (h'.push { cls := .type "list", data := .seq #[] }).update h'.objs.size (Obj.mapSeq (fun _ => (#[] : Array Value))) = h2
 intro hS2 k2
 refine wpAny_bind (wpAny_letGo ?_)
 unfold Builtin.List.listExtendWith
 have zz2 := k2 _ _ Z.Sz.symm hzz
 have zT2 : Shared.TypeIs { s with heap := h2 } (.ref (s.heap.objs.size + 4)) "zip" := ⟨_, zz2, rfl⟩
 refine wpAny_bind (wpAny_typeOf zT2 ?_)
 have e1 : Builtin.List.listSameRef (.ref h'.objs.size) (.ref (s.heap.objs.size + 4)) = false := by simp [Builtin.List.listSameRef]; exact Z.Sz
 have e2 : (Value.type "zip" == Value.type "list") = false := by decide
 have e3 : (Value.type "zip" == Value.type "tuple") = false := by decide
 simp only [e1, e2, e3, Bool.or_false, Bool.false_eq_true, if_false]
 refine wpAny_bind (wpAny_pyIter_zip zz2 ?_)
 refine wpAny_bind (wpAny_holding ?_)
 unfold Builtin.List.listLengthHint
 refine wpAny_bind (wpAny_specialOf zT2 zip_no_len ?_)
 show wpAny _ _ (specialOf (Value.ref (s.heap.objs.size + 4)) (Str.ofString "__length_hint__") >>= _) _ _ _
 refine wpAny_bind (wpAny_specialOf zT2 zip_no_hint (wpAny_pure ?_))
 show wpAny _ _ (rule "list.extend.makes-room" >>= fun _ => Builtin.List.listTouch (.ref h'.objs.size) >>= fun _ => again (.builtin "list.extend.loop" ⟨[.ref h'.objs.size, .ref (s.heap.objs.size + 4), .none], []⟩)) _ _ _
 refine wpAny_bind (wpAny_rule (wpAny_bind ?_))
 show wpAny _ _ (updateSeq h'.objs.size (·.push .none) >>= fun _ => updateSeq h'.objs.size (·.pop)) _ _ _
 refine wpAny_bind (wpAny_updateSeq hS2 rfl ?_)
 have hS3 := Heap.get?_update_self (Obj.mapSeq (·.push Value.none)) hS2 rfl
 refine wpAny_updateSeq (hz := by seq_fits) hS3 rfl ?_
 have hS4 := Heap.get?_update_self (Obj.mapSeq (·.pop)) hS3 rfl
 have k4 : ∀ b o, b ≠ h'.objs.size → h'.get? b = some o → ((h2.update h'.objs.size (Obj.mapSeq (·.push Value.none))).update h'.objs.size (Obj.mapSeq (·.pop))).get? b = some o :=
  fun b o hb e => (Heap.get?_update_other _ _ (Ne.symm hb)).trans ((Heap.get?_update_other _ _ (Ne.symm hb)).trans (k2 b o hb e))
 revert hS4 k4
 generalize (h2.update h'.objs.size (Obj.mapSeq (·.push Value.none))).update h'.objs.size (Obj.mapSeq (·.pop)) = h4
 intro hS4 k4
 have bs : ∀ b o, s.heap.get? b = some o → b < s.heap.objs.size := fun b o e => Heap.lt_size e
 have neS : ∀ b o, s.heap.get? b = some o → b ≠ h'.objs.size := fun b o e => Nat.ne_of_lt (Nat.lt_of_lt_of_le (bs b o e) Z.nS)
 refine wpAny_pure ⟨plainId_quiet F.plain_extend_loop _, ?_⟩
 show codeAny _ _ _ _ ({ s with heap := h4 } : Shared)
 refine lz_loop (A := A.in1) hh Z hxy h0 hz (B := s.heap) (s₀ := s) xs.size 0 (ts := []) (Nat.zero_add _) ⟨.inl ⟨rfl, k4 _ _ Z.Sz.symm hzz⟩, k4 _ _ Z.STI.symm hTI, ⟨_, _, k4 _ _ Z.STO.symm hTO⟩, hit1.at fun o e => k4 _ _ Z.Si1.symm e, hit2.at fun o e => k4 _ _ Z.Si2.symm e,
  hl1.at fun o e => k4 _ _ Z.Sl1.symm (kp _ _ e), hl2.at fun o e => k4 _ _ Z.Sl2.symm (kp _ _ e), ⟨_, hS4⟩, rfl, fun j T q => by cases q⟩ (fun b o e => k4 b o (neS b o e) (kp b o e)) bs ?_ ⟨rfl, rfl, rfl⟩ fun s' ts' c1 c2 c3 c4 c5 => ⟨rfl, hQ s' h'.objs.size ts' Z.nS c1 c2 c3 c4 c5⟩
 have : h'.objs.size < h4.objs.size := Heap.lt_size hS4
 exact Nat.le_of_lt (Nat.lt_of_le_of_lt Z.nS this)
end
end
section
set_option tactic.hygienic false
theorem isL_at {h : Heap} : ∀ {vs : List Value} {ds : List D}, vs.length = ds.length → (∀ (j : Nat) v d, vs[j]? = some v → ds[j]? = some d → Is h v d) → IsL h vs ds
 | [], [], _, _ => .nil
 | v :: vs, d :: ds, e, q => .cons (q 0 v d rfl rfl) (isL_at (Nat.succ.inj e) fun j v d a b => q (j + 1) v d a b)
theorem zipP_get {xs ys : List D} {k : Nat} {x y : D} (h1 : xs[k]? = some x) (h2 : ys[k]? = some y) : ((xs.zip ys).map fun p => D.tup [p.1, p.2])[k]? = some (.tup [x, y]) := by
 rw [List.getElem?_map, List.getElem?_zip_eq_some (z := (x, y)) |>.mpr ⟨h1, h2⟩]; rfl
section
variable {G : Gd} {n : Nat} {H : Hp} {env : Env} {m : Loc} {Q : D → Hp → Prop}
inductive ZpQ (Q : D → Hp → Prop) (d1 d2 : D) (H2 : Hp) : Prop
 | mk (a1 a2 : Addr) (l r : List D) (e1 : d1 = .ref a1) (e2 : d2 = .ref a2) (h1 : H2 a1 = some (.lst l)) (h2 : H2 a2 = some (.lst r)) (hlr : l.length = r.length) (h0 : 0 < l.length) (hz : l.length ≤ 1000) (q : ∀ c, H2 c = none → Q (.ref c) (H2.set c (.lst ((l.zip r).map fun p => .tup [p.1, p.2]))))
theorem Ev.listZip {x xp y yp e1 e2 cp lp} (hx : nsIn G.K mainGlobals x = some none) (hv : bootBuiltins x = some (.type "list")) (hy : nsIn G.K mainGlobals y = some none) (hw : bootBuiltins y = some (.type "zip"))
  (h : Ev G n env m H e1 fun d1 H1 => Ev G n env m H1 e2 (ZpQ Q d1))
  (hk : autoParam (env.scope.kind = .function) aR) (hg : autoParam (env.globals = mainGlobals) aR) (hb : autoParam (env.builtins = builtinsNs) aR) (hn : autoParam (x ≠ "__name__") aD) (hn2 : autoParam (y ≠ "__name__") aD)
  (hxx : autoParam (env.kindOf x = some .globalImplicit) aR) (hyy : autoParam (env.kindOf y = some .globalImplicit) aR) (hd : autoParam ((x == ("__debug__" : Str)) = false) aD) (hd2 : autoParam ((y == ("__debug__" : Str)) = false) aD)
  (hst : autoParam (starEach (e1 :: [e2]) env = (false, eval e1 env) :: starEach [e2] env) aR) (hst2 : autoParam (starEach (e2 :: []) env = (false, eval e2 env) :: starEach [] env) aR) (hp : autoParam ((backTo cp (starEach [e2] env)).any (·.1) = false) aR)
  (hst3 : autoParam (starEach [.Call (.Name y yp) [e1, e2] [] cp] env = (false, eval (.Call (.Name y yp) [e1, e2] [] cp) env) :: starEach [] env) aR) (hp3 : autoParam ((backTo lp (starEach [] env)).any (·.1) = false) aR) :
  Ev G n env m H (.Call (.Name x xp) [.Call (.Name y yp) [e1, e2] [] cp] [] lp) Q := by
 intro s hL B A T O S
 have hev : Ev G n env m H (.Name x xp) fun d H1 => d = .ty "list" ∧ H1 = H := Ev.builtT hx hv ⟨rfl, rfl⟩ hk hg hb hn hxx hd
 have hev2 : Ev G n env m H (.Name y yp) fun d H1 => d = .ty "zip" ∧ H1 = H := Ev.builtT hy hw ⟨rfl, rfl⟩ hk hg hb hn2 hyy hd2
 have hargs : EvL G n env m H cp [e1, e2] fun ds H2 => ∃ d1 d2, ds = [d1, d2] ∧ ZpQ Q d1 d2 H2 :=
  EvL.cons (h.mono fun d1 H1 q => EvL.cons (q.mono fun d2 H2 z => EvL.nil ⟨d1, d2, rfl, z⟩) hst2) hst
 refine Call_Name rfl (wpAny_mono (hev s hL B A T O S) ?_ fun _ _ z => z)
 rintro v1 s1 ⟨_, _, i1, S1, st1, H1, rfl, hL1, rfl, rfl⟩
 obtain rfl := i1.inv
 refine callWith_type1 (args_cons ?_ hst3) hst3 hp3
 refine Call_Name rfl (wpAny_mono (hev2 s1 hL1 B A T O S1) ?_ fun _ _ z => z)
 rintro v2 s2 ⟨_, _, i2, S2, st2, H2, rfl, hL2, rfl, rfl⟩
 obtain rfl := i2.inv
 refine callWith_type1 (wpAny_mono (hargs s2 hL2 B A T O S2) ?_ fun _ _ z => z) hst hp
 rintro vs s3 ⟨_, _, i3, S3, st3, H3, rfl, hL3, d1, d2, rfl, ⟨a1, a2, l, r, rfl, rfl, p1, p2, hlr, h0, hz, q⟩⟩
 replace i3 := i3.inv; obtain ⟨_, _, rfl, j1, i3⟩ := i3
 replace i3 := i3.inv; obtain ⟨_, _, rfl, j2, i3⟩ := i3
 obtain rfl := i3.inv
 obtain rfl := j1.inv
 obtain rfl := j2.inv
 have ne : ∀ {a : Addr} {l : List D}, H3 a = some (.lst l) → a ≠ env.locals := fun e z => by rw [z, hL3] at e; cases e
 obtain ⟨_, xs, t1, x1⟩ := S3.own a1 _ ((Hp.set_ne _ _ (ne p1)).trans p1)
 obtain ⟨_, ys, t2, x2⟩ := S3.own a2 _ ((Hp.set_ne _ _ (ne p2)).trans p2)
 have lx := x1.length
 have ly := x2.length
 refine wpAny_mono (call_list_zip O.handled t1.isList t2.isList (by simp; one_sign) (by simp; one_sign) (by simp; one_sign) fun s' L ts hle hS hlen hit kp hg' => ?_) (fun v s₁ h => args_nil h) (fun _ _ z => z)
 obtain ⟨c, hS⟩ := hS
 have hf := S3.fresh hle
 have hfL : H3 L = none := by
  by_cases e : L = env.locals
  ·rw [e]; exact hL3
  ·rw [Hp.set_ne _ _ e] at hf; exact hf
 have hLne : L ≠ env.locals := fun e => by rw [e, Hp.set_self] at hf; cases hf
 have S4 := S3.new (x := .lst ((l.zip r).map fun p => .tup [p.1, p.2])) kp hle ⟨ts.map Value.ref, ⟨c, hS⟩, isL_at (by simp; simp at hlen; one_sign) fun j v d e1 e2 => by
  rw [List.getElem?_map] at e1
  obtain ⟨Tj, g1, rfl⟩ := Option.map_eq_some_iff.mp e1
  obtain ⟨x, y, g2, g3, g4⟩ := hit j Tj g1
  rw [List.getElem?_toArray] at g2 g3
  have hj : j < l.length := by have := (List.getElem?_eq_some_iff.mp g2).1; one_sign
  obtain ⟨x', k1, ix⟩ := x1.get (List.getElem?_eq_getElem hj)
  obtain ⟨y', k2, iy⟩ := x2.get (List.getElem?_eq_getElem (show j < r.length by one_sign))
  rw [g2] at k1; cases k1
  rw [g3] at k2; cases k2
  rw [zipP_get (List.getElem?_eq_getElem hj) (List.getElem?_eq_getElem (show j < r.length by one_sign))] at e2
  cases e2
  exact .tup (vs := [_, _]) ⟨_, g4, rfl, _, rfl⟩ (.cons (ix.mono (.keeps kp)) (.cons (iy.mono (.keeps kp)) .nil))⟩
 rw [Hp.set_comm _ _ _ hLne.symm] at S4
 have st4 : Step s3 s' := ⟨hg'.1, hg'.2.1, hg'.2.2, .keeps kp⟩
 exact ⟨_, _, .ref _, S4, ((st1.trans st2).trans st3).trans st4, _, rfl, (Hp.set_ne _ _ hLne.symm).trans hL3, q L hfL⟩
end
end
section
set_option tactic.hygienic false
section
open AutoSeq1 (wpAny_loadPart')
open MeetsSeq MeetsSeq2 MeetsSeq3
noncomputable def LtAt (A : Around) (s : Shared) (y x : Value) (b : Bool) : Prop :=
 ∀ (prog : Program) (w : World) (E : Value → Shared → Prop) (Q : Value → Shared → Prop), Q (.bool b) s → wpAny (model prog w) A (richCompare .Lt y x) Q E s
theorem LtAt.int_int {A : Around} {s : Shared} (a : Int) (t : Tok) (b : Int) (u : Tok) : LtAt A s (.int a t) (.int b u) (decide (a < b)) := fun prog w E Q h => P.lt_int h
noncomputable def ltF (m n : Nat) (e r : Nat → Bool) : Nat → Nat → Bool
 | 0, i => decide (m < n)
 | k + 1, i => bif e i then ltF m n e r k (i + 1) else r i
theorem lt_loopAt (l b : Addr) (items items2 : Array Value) (n n2 : Nat) (dd dd2 : Option Addr) (sl sl2 : Array (Option Value)) (e r : Nat → Bool) (k : Nat) :
  ∀ i : Nat, min items.size items2.size - i = k → Meets (Builtin.«list.__eq__.loop» ⟨[.ref l, .ref b, rawInt i, rawInt 0], []⟩)
   (fun A R s => s.heap.get? l = some { cls := .type "list", dict := dd, data := .seq items n, slots := sl } ∧ s.heap.get? b = some { cls := .type "list", dict := dd2, data := .seq items2 n2, slots := sl2 } ∧
    (∀ j (h1 : j < items.size) (h2 : j < items2.size), EqAt A.in1 s items[j] items2[j] (e j) ∧ LtAt A.in1 s items[j] items2[j] (r j)) ∧
    R (.ok (.ret (.bool (ltF items.size items2.size e r k i)))) s) := by
 induction k with
 | zero =>
  intro i hk prog w A R s h
  obtain ⟨hp, g, d, tk, os⟩ := s; obtain ⟨hl, hb, he, h⟩ := h
  wp_walk using wpAny_loadPart' hl, wpAny_loadPart' hb
  have hi : items[((i : Nat) : Int).toNat]? = none ∨ items2[((i : Nat) : Int).toNat]? = none := by simp; one_sign
  rcases hi with hi | hi
  ·rw [hi]
   wp_walk using wpAny_loadPart' hl, wpAny_loadPart' hb
   exact h
  ·rw [hi]
   cases items[((i : Nat) : Int).toNat]? with
   | none =>
    wp_walk using wpAny_loadPart' hl, wpAny_loadPart' hb
    exact h
   | some x =>
    wp_walk using wpAny_loadPart' hl, wpAny_loadPart' hb
    exact h
 | succ k ih =>
  intro i hk prog w A R s h
  obtain ⟨hp, g, d, tk, os⟩ := s; obtain ⟨hl, hb, he, h⟩ := h
  wp_walk using wpAny_loadPart' hl, wpAny_loadPart' hb
  have hlt : i < items.size := by one_sign
  have hlt2 : i < items2.size := by one_sign
  have hi1 : items[((i : Nat) : Int).toNat]? = some items[i] := by simp [hlt]
  have hi2 : items2[((i : Nat) : Int).toNat]? = some items2[i] := by simp [hlt2]
  have hc : ((i : Int) + 1) = ((i + 1 : Nat) : Int) := by push_cast; rfl
  rw [hi1, hi2]
  unfold ltF at h
  refine wpAny_bind ((he i hlt hlt2).1 prog w _ _ ?_)
  cases hb' : e i with
  | true =>
   rw [hb'] at h
   wp_walk
   rw [hc]
   exact ⟨plainId_quiet plain_eq_loop _, codeAny_builtin entry_eq_loop (by
    rw [Around.under_plainId plain_eq_loop _]
    exact ih (i + 1) (by one_sign) prog w A R _ ⟨hl, hb, he, h⟩)⟩
  | false =>
   rw [hb'] at h
   wp_walk using wpAny_loadPart' hl, wpAny_loadPart' hb
   rw [hi1, hi2]
   refine wpAny_bind ((he i hlt hlt2).2 prog w _ _ ?_)
   wp_walk
   exact h
theorem list_ltAt (l b : Addr) (items items2 : Array Value) (n n2 : Nat) (dd dd2 : Option Addr) (sl sl2 : Array (Option Value)) (e r : Nat → Bool) :
  Meets (Builtin.«list.__lt__» ⟨[.ref l, .ref b], []⟩)
   (fun A R s => s.heap.get? l = some { cls := .type "list", dict := dd, data := .seq items n, slots := sl } ∧ s.heap.get? b = some { cls := .type "list", dict := dd2, data := .seq items2 n2, slots := sl2 } ∧
    (∀ j (h1 : j < items.size) (h2 : j < items2.size), EqAt A.in1 s items[j] items2[j] (e j) ∧ LtAt A.in1 s items[j] items2[j] (r j)) ∧
    R (.ok (.ret (.bool (ltF items.size items2.size e r (min items.size items2.size) 0)))) s) := by
 intro prog w A R s h
 obtain ⟨hp, g, d, tk, os⟩ := s; obtain ⟨hl, hb, he, h⟩ := h
 have f3 := AutoSeq1.sub_list_list
 wp_walk using wpAny_loadPart' hl, wpAny_loadPart' hb
 exact ⟨plainId_quiet plain_eq_loop _, codeAny_builtin entry_eq_loop (by
  rw [Around.under_plainId plain_eq_loop _]
  exact lt_loopAt l b items items2 n n2 dd dd2 sl sl2 e r _ 0 rfl prog w A R _ ⟨hl, hb, he, h⟩)⟩
theorem tuple_ltAt (l b : Addr) (items items2 : Array Value) (n n2 : Nat) (dd dd2 : Option Addr) (sl sl2 : Array (Option Value)) (e r : Nat → Bool) :
  Meets (Builtin.«tuple.__lt__» ⟨[.ref l, .ref b], []⟩)
   (fun A R s => s.heap.get? l = some { cls := .type "tuple", dict := dd, data := .seq items n, slots := sl } ∧ s.heap.get? b = some { cls := .type "tuple", dict := dd2, data := .seq items2 n2, slots := sl2 } ∧
    (∀ j (h1 : j < items.size) (h2 : j < items2.size), EqAt A.in1 s items[j] items2[j] (e j) ∧ LtAt A.in1 s items[j] items2[j] (r j)) ∧
    R (.ok (.ret (.bool (ltF items.size items2.size e r (min items.size items2.size) 0)))) s) :=
 .of_wp fun prog w A R s h => by
  obtain ⟨hp, g, d, tk, os⟩ := s; obtain ⟨hl, hb, he, h⟩ := h
  have f2 := AutoSeq1.sub_tuple_tuple
  have hZ : (items.toList.zip items2.toList).length = min items.size items2.size := by simp
  wp_walk using wpAny_loadPart' hl, wpAny_loadPart' hb, wpAny_forIn_list _ (fun rest b s' => b.1 = none ∧ s' = ⟨hp, g, d, tk, os⟩ ∧ ∃ i, rest = (items.toList.zip items2.toList).drop i ∧
   R (.ok (.ret (.bool (ltF items.size items2.size e r (min items.size items2.size - i) i)))) ⟨hp, g, d, tk, os⟩) _
  case turn =>
   rintro ⟨y, x⟩ rest b s' ⟨hb', rfl, i, hz, hR⟩
   have hlt : i < (items.toList.zip items2.toList).length := by
    rcases Nat.lt_or_ge i (items.toList.zip items2.toList).length with h' | h'
    ·exact h'
    ·rw [List.drop_of_length_le h'] at hz; cases hz
   have hm : i < min items.size items2.size := hZ ▸ hlt
   have h1 : i < items.size := Nat.lt_of_lt_of_le hm (Nat.min_le_left _ _)
   have h2 : i < items2.size := Nat.lt_of_lt_of_le hm (Nat.min_le_right _ _)
   rw [List.drop_eq_getElem_cons hlt] at hz
   injection hz with hyx hrest
   have hy : y = items[i] := by have := congrArg Prod.fst hyx; simpa using this
   have hx : x = items2[i] := by have := congrArg Prod.snd hyx; simpa using this
   subst hy hx
   rw [show min items.size items2.size - i = (min items.size items2.size - (i + 1)) + 1 by one_sign] at hR
   unfold ltF at hR
   have hlt' := (he i h1 h2).2
   refine wpAny_bind ((he i h1 h2).1 prog w _ _ ?_)
   unfold LtAt at hlt'
   revert hlt'
   generalize richCompare CmpOp.Lt items[i] items2[i] = M
   intro hlt'
   cases hy : e i with
   | true =>
    rw [hy] at hR
    wp_walk
    exact ⟨rfl, rfl, i + 1, hrest, hR⟩
   | false =>
    rw [hy] at hR
    wp_walk
    refine hlt' prog w _ _ ?_
    wp_walk
    exact ⟨_, rfl, hR⟩
  case fin =>
   rintro ⟨b1, b2⟩ s' ⟨hb', rfl, i, hz, hR⟩
   simp only at hb'
   subst hb'
   have hge : min items.size items2.size ≤ i := by
    rcases Nat.lt_or_ge i (items.toList.zip items2.toList).length with h' | h'
    ·rw [List.drop_eq_getElem_cons h'] at hz; cases hz
    ·exact hZ ▸ h'
   rw [show min items.size items2.size - i = 0 by one_sign] at hR
   wp_walk
   exact ⟨_, rfl, hR⟩
  case h =>
   exact ⟨rfl, rfl, 0, rfl, h⟩
end
section
variable {A : Around} {s : Shared}
theorem LtAt.lists {l b : Addr} {items items2 : Array Value} {e r : Nat → Bool} (hl : s.heap.IsList l items) (hb : s.heap.IsList b items2) (hu : A.units < cLine)
  (he : ∀ j (h1 : j < items.size) (h2 : j < items2.size), EqAt A.in1 s items[j] items2[j] (e j) ∧ LtAt A.in1 s items[j] items2[j] (r j)) : LtAt A s (.ref l) (.ref b) (ltF items.size items2.size e r (min items.size items2.size) 0) := fun prog w E Q h => by
 obtain ⟨⟨cls, dd, data, sl⟩, ho, hc, n, hd⟩ := id hl
 obtain ⟨⟨cls2, dd2, data2, sl2⟩, ho2, hc2, n2, hd2⟩ := id hb
 simp only at hc hd hc2 hd2
 subst hc hd hc2 hd2
 exact richCompare_meets_room (op := .Lt) ⟨_, ho, rfl⟩ ⟨_, ho2, rfl⟩ F.slot_list_lt F.entry_list_lt (F.args_list_lt_2 _ _) (list_ltAt l b items items2 n n2 dd dd2 sl sl2 e r)
  ⟨ho, ho2, he, show Value.bool _ ≠ Value.notImplemented ∧ Q (.bool _) s from ⟨(fun x => nomatch x), h⟩⟩ hu
theorem LtAt.tuples {l b : Addr} {items items2 : Array Value} {e r : Nat → Bool} (hl : s.heap.IsTuple l items) (hb : s.heap.IsTuple b items2) (hu : A.units < cLine)
  (he : ∀ j (h1 : j < items.size) (h2 : j < items2.size), EqAt A.in1 s items[j] items2[j] (e j) ∧ LtAt A.in1 s items[j] items2[j] (r j)) : LtAt A s (.ref l) (.ref b) (ltF items.size items2.size e r (min items.size items2.size) 0) := fun prog w E Q h => by
 obtain ⟨⟨cls, dd, data, sl⟩, ho, hc, n, hd⟩ := id hl
 obtain ⟨⟨cls2, dd2, data2, sl2⟩, ho2, hc2, n2, hd2⟩ := id hb
 simp only at hc hd hc2 hd2
 subst hc hd hc2 hd2
 exact richCompare_meets_room (op := .Lt) ⟨_, ho, rfl⟩ ⟨_, ho2, rfl⟩ F.slot_tuple_lt F.entry_tuple_lt (F.args_tuple_lt_2 _ _) (tuple_ltAt l b items items2 n n2 dd dd2 sl sl2 e r)
  ⟨ho, ho2, he, show Value.bool _ ≠ Value.notImplemented ∧ Q (.bool _) s from ⟨(fun x => nomatch x), h⟩⟩ hu
end
noncomputable def ilt : List Int → List Int → Bool
 | [], [] => false
 | [], _ :: _ => true
 | _ :: _, [] => false
 | x :: xs, y :: ys => bif x == y then ilt xs ys else decide (x < y)
theorem ltF_ilt (m n : Nat) (e r : Nat → Bool) : ∀ (k i : Nat) (xs ys : List Int), min xs.length ys.length = k → (decide (xs.length < ys.length) = decide (m < n)) → (∀ j, j < k → e (i + j) = (xs.getD j 0 == ys.getD j 0) ∧ r (i + j) = decide (xs.getD j 0 < ys.getD j 0)) → ltF m n e r k i = ilt xs ys
 | 0, i, xs, ys, hk, hl, h => by
  match xs, ys with
  | [], [] => exact hl.symm
  | [], _ :: _ => rw [ltF, ← hl]; simp [ilt]
  | _ :: _, [] => rw [ltF, ← hl]; simp [ilt]
  | _ :: _, _ :: _ => simp at hk
 | k + 1, i, xs, ys, hk, hl, h => by
  match xs, ys with
  | [], [] => simp at hk
  | [], _ :: _ => simp at hk
  | _ :: _, [] => simp at hk
  | x :: xs, y :: ys =>
   unfold ltF ilt
   have h0 := h 0 (by one_sign)
   rw [Nat.add_zero] at h0
   rw [h0.1, h0.2]
   rw [ltF_ilt m n e r k (i + 1) xs ys (by simp at hk; one_sign) (by rw [← hl]; simp) (fun j hj => by
    have := h (j + 1) (by one_sign)
    rw [show i + 1 + j = i + (j + 1) by one_sign]; exact this)]
   rfl
section
variable {G : Gd} {n : Nat} {H : Hp} {Q : D → Hp → Prop}
theorem ints_at {h : Heap} {vs : List Value} {xs : List Int} (i : IsL h vs (xs.map .int)) {j : Nat} (hj : j < vs.length) : ∃ t, vs[j] = .int (xs.getD j 0) t := by
 have hj' : j < xs.length := by have := i.length; rw [List.length_map] at this; one_sign
 have := i.at (j := j) hj (by rw [List.length_map]; exact hj')
 rw [List.getElem_map] at this
 obtain ⟨t, e⟩ := this.inv
 exact ⟨t, by rw [e, List.getD_eq_getElem?_getD, List.getElem?_eq_getElem hj']; rfl⟩
theorem Cmp.ltTL {a b : Int} {x y : Addr} {xs ys : List Int} (hx : H x = some (.lst (xs.map .int))) (hy : H y = some (.lst (ys.map .int))) (q : Q (.bool (bif a == b then ilt xs ys else decide (a < b))) H) (hn : 1 ≤ n) :
  Cmp G n H .Lt (.tup [.int a, .ref x]) (.tup [.int b, .ref y]) Q := fun s v w i j B A T O S => by
 obtain ⟨t1, vs1, rfl, u1, i1⟩ := i.inv
 obtain ⟨t2, vs2, rfl, u2, i2⟩ := j.inv
 obtain ⟨_, vs, t, i⟩ := S.own _ _ hx
 obtain ⟨_, ws, u, j⟩ := S.own _ _ hy
 have hu : A.in1.units < cLine := by have := O.room hn; show A.units + 1 < _; one_sign
 have lv := i.length
 have lw := j.length
 rw [List.length_map] at lv lw
 cases i1 with | @cons va _ _ _ ia i1 =>
 cases i1 with | @cons vx _ _ _ ix i1 =>
 cases i1
 cases i2 with | @cons vb _ _ _ ib i2 =>
 cases i2 with | @cons vy _ _ _ iy i2 =>
 cases i2
 obtain ⟨ta, rfl⟩ := ia.inv
 obtain ⟨tb, rfl⟩ := ib.inv
 obtain rfl := ix.inv
 obtain rfl := iy.inv
 have hs1 : vs.toArray.size = xs.length := by rw [List.size_toArray]; exact lv
 have hs2 : ws.toArray.size = ys.length := by rw [List.size_toArray]; exact lw
 have e1 : EqAt A.in1 s (.ref x) (.ref y) (xs == ys) := by
  by_cases z : x = y
  ·subst z
   rw [hx] at hy
   have hxy : xs = ys := (List.map_inj_right (fun _ _ => D.int.inj)).mp (X.lst.inj (Option.some.inj hy))
   subst hxy
   rw [beq_self_eq_true]; exact EqAt.same _
  ·refine EqAt.of_refs z ?_
   by_cases e : xs.length = ys.length
   ·have := RcAt.lists (A := A.in1) t.isList u.isList (by rw [hs1, hs2, e]) hu (e := fun k => xs.getD k 0 == ys.getD k 0) (fun k h1 h2 => by
     obtain ⟨t1, e1⟩ := ints_at i (j := k) (by rw [List.size_toArray] at h1; exact h1)
     obtain ⟨t2, e2⟩ := ints_at j (j := k) (by rw [List.size_toArray] at h2; exact h2)
     show EqAt _ _ vs[k] ws[k] _
     rw [e1, e2]; exact EqAt.int_int _ _ _ _)
    rw [hs1] at this
    have ea : ((List.range xs.length).all fun k => xs.getD k 0 == ys.getD k 0) = (xs == ys) := by
     rw [Bool.eq_iff_iff, List.all_eq_true, beq_iff_eq]
     constructor
     ·intro h
      refine List.ext_getElem e fun k k1 k2 => ?_
      have := h k (List.mem_range.mpr k1)
      rw [beq_iff_eq, List.getD_eq_getElem?_getD, List.getD_eq_getElem?_getD, List.getElem?_eq_getElem k1, List.getElem?_eq_getElem k2] at this
      exact this
     ·rintro rfl k _; exact beq_self_eq_true _
    rw [ea] at this; exact this
   ·have ef : (xs == ys) = false := by rw [beq_eq_false_iff_ne]; rintro rfl; exact e rfl
    rw [ef]
    exact RcAt.lists_lengths t.isList u.isList (by rw [hs1, hs2]; simpa using e) hu
 have l1 : LtAt A.in1 s (.ref x) (.ref y) (ilt xs ys) := by
  have := LtAt.lists (A := A.in1) (s := s) t.isList u.isList hu (e := fun k => xs.getD k 0 == ys.getD k 0) (r := fun k => decide (xs.getD k 0 < ys.getD k 0)) (fun k h1 h2 => by
   obtain ⟨t1, e1⟩ := ints_at i (j := k) (by rw [List.size_toArray] at h1; exact h1)
   obtain ⟨t2, e2⟩ := ints_at j (j := k) (by rw [List.size_toArray] at h2; exact h2)
   show EqAt _ _ vs[k] ws[k] _ ∧ LtAt _ _ vs[k] ws[k] _
   rw [e1, e2]; exact ⟨EqAt.int_int _ _ _ _, LtAt.int_int _ _ _ _⟩)
  rw [hs1, hs2, ltF_ilt xs.length ys.length _ _ _ 0 xs ys rfl rfl (fun k _ => by rw [Nat.zero_add]; exact ⟨rfl, rfl⟩)] at this
  exact this
 refine cmp_ofLt ?_
 have hT := LtAt.tuples (A := A) (s := s) (tupOf u1) (tupOf u2) O.u (e := fun k => if k = 0 then a == b else xs == ys) (r := fun k => if k = 0 then decide (a < b) else ilt xs ys) (fun k h1 h2 => by
  have : k = 0 ∨ k = 1 := by have : k < 2 := h1; one_sign
  rcases this with rfl | rfl
  ·exact ⟨EqAt.int_int _ _ _ _, LtAt.int_int _ _ _ _⟩
  ·exact ⟨e1, l1⟩)
 refine hT _ _ _ _ ⟨_, _, ?_, S, .refl _, q⟩
 have : ltF 2 2 (fun k => if k = 0 then a == b else xs == ys) (fun k => if k = 0 then decide (a < b) else ilt xs ys) 2 0 = bif a == b then ilt xs ys else decide (a < b) := by
  unfold ltF ltF ltF
  simp only [if_true, show ¬ (0 + 1 = 0) by decide, if_false]
  cases a == b with
  | false => rfl
  | true =>
   show (bif xs == ys then decide (2 < 2) else ilt xs ys) = ilt xs ys
   cases q : xs == ys with
   | false => rfl
   | true =>
    rw [beq_iff_eq.mp q]
    have : ∀ l : List Int, ilt l l = false := fun l => by
     induction l with
     | nil => rfl
     | cons x l ih => unfold ilt; rw [beq_self_eq_true]; exact ih
    rw [this]; rfl
 have e2 : ltF (#[Value.int a ta, .ref x]).size (#[Value.int b tb, .ref y]).size (fun k => if k = 0 then a == b else xs == ys) (fun k => if k = 0 then decide (a < b) else ilt xs ys) (min (#[Value.int a ta, .ref x]).size (#[Value.int b tb, .ref y]).size) 0 = bif a == b then ilt xs ys else decide (a < b) := this
 rw [← e2]; exact .bool _
end
end
section
set_option tactic.hygienic false
theorem ilt_irrefl : ∀ l : List Int, ilt l l = false
 | [] => rfl
 | x :: l => by unfold ilt; rw [beq_self_eq_true]; exact ilt_irrefl l
theorem ilt_cons {x : Int} {a b : List Int} : ilt (x :: a) (x :: b) = ilt a b := by rw [ilt, beq_self_eq_true]; rfl
theorem ilt_lt {x y : Int} {a b : List Int} (h : x < y) : ilt (x :: a) (y :: b) = true := by
 have : (x == y) = false := beq_eq_false_iff_ne.mpr (by one_sign)
 rw [ilt, this]; exact decide_eq_true h
theorem ilt_cases {x y : Int} {a b : List Int} (h : ilt (x :: a) (y :: b) = true) : x < y ∨ (x = y ∧ ilt a b = true) := by
 by_cases q : x = y
 ·subst q; rw [ilt_cons] at h; exact .inr ⟨rfl, h⟩
 ·have : (x == y) = false := beq_eq_false_iff_ne.mpr q
  rw [ilt, this] at h; exact .inl (of_decide_eq_true h)
theorem ilt_trans : ∀ {a b c : List Int}, ilt a b = true → ilt b c = true → ilt a c = true
 | [], [], _, h, _ => by cases h
 | [], _ :: _, [], _, h => by cases h
 | [], _ :: _, _ :: _, _, _ => rfl
 | _ :: _, [], _, h, _ => by cases h
 | _ :: _, _ :: _, [], _, h => by cases h
 | x :: a, y :: b, z :: c, h1, h2 => by
  rcases ilt_cases h1 with g1 | ⟨rfl, g1⟩
  ·rcases ilt_cases h2 with g2 | ⟨rfl, g2⟩
   ·exact ilt_lt (by one_sign)
   ·exact ilt_lt g1
  ·rcases ilt_cases h2 with g2 | ⟨rfl, g2⟩
   ·exact ilt_lt g2
   ·rw [ilt_cons]; exact ilt_trans g1 g2
noncomputable def klt (a : Int) (x : List Int) (b : Int) (y : List Int) : Bool := bif a == b then ilt x y else decide (a < b)
theorem klt_trans {a b c : Int} {x y z : List Int} (h1 : klt a x b y = true) (h2 : klt b y c z = true) : klt a x c z = true := ilt_trans (a := a :: x) (b := b :: y) (c := c :: z) h1 h2
theorem klt_irrefl (a : Int) (x : List Int) : klt a x a x = false := ilt_irrefl (a :: x)
noncomputable def bestTo (C : Nat → Option Int) (c : Nat → Int) : Nat → Option (Int × Nat)
 | 0 => none
 | j + 1 => match C j with
  | none => bestTo C c j
  | some x => match bestTo C c j with
   | none => some (c j + x, j)
   | some b => if c j + x < b.1 then some (c j + x, j) else some b
theorem bestTo_spec (C : Nat → Option Int) (c : Nat → Int) : ∀ m, (bestTo C c m = none ∧ ∀ j, j < m → C j = none) ∨ ∃ o x, o < m ∧ C o = some x ∧ bestTo C c m = some (c o + x, o) ∧ (∀ j y, j < m → C j = some y → c o + x ≤ c j + y) ∧ (∀ j y, j < o → C j = some y → c o + x < c j + y)
 | 0 => .inl ⟨rfl, fun j h => by one_sign⟩
 | m + 1 => by
  have ih := bestTo_spec C c m
  have split : ∀ {j}, j < m + 1 → j < m ∨ j = m := fun h => by one_sign
  cases q : C m with
  | none =>
   have e : bestTo C c (m + 1) = bestTo C c m := by rw [bestTo, q]
   rw [e]
   rcases ih with ⟨a, b⟩ | ⟨o, x, h1, h2, h3, h4, h5⟩
   ·refine .inl ⟨a, fun j hj => ?_⟩
    rcases split hj with hj | rfl
    ·exact b j hj
    ·exact q
   ·refine .inr ⟨o, x, by one_sign, h2, h3, fun j y hj hy => ?_, h5⟩
    rcases split hj with hj | rfl
    ·exact h4 j y hj hy
    ·rw [q] at hy; cases hy
  | some z =>
   rcases ih with ⟨a, b⟩ | ⟨o, x, h1, h2, h3, h4, h5⟩
   ·refine .inr ⟨m, z, by one_sign, q, by rw [bestTo, q, a], fun j y hj hy => ?_, fun j y hj hy => ?_⟩
    ·rcases split hj with hj | rfl
     ·rw [b j hj] at hy; cases hy
     ·rw [q] at hy; cases hy; one_sign
    ·rw [b j hj] at hy; cases hy
   ·by_cases g : c m + z < c o + x
    ·refine .inr ⟨m, z, by one_sign, q, by rw [bestTo, q, h3]; exact if_pos g, fun j y hj hy => ?_, fun j y hj hy => ?_⟩
     ·rcases split hj with hj | rfl
      ·have := h4 j y hj hy; one_sign
      ·rw [q] at hy; cases hy; one_sign
     ·have := h4 j y hj hy; one_sign
    ·refine .inr ⟨o, x, by one_sign, h2, by rw [bestTo, q, h3]; exact if_neg g, fun j y hj hy => ?_, h5⟩
     rcases split hj with hj | rfl
     ·exact h4 j y hj hy
     ·rw [q] at hy; cases hy; one_sign
theorem bestTo_congr {C : Nat → Option Int} {c c' : Nat → Int} : ∀ m, (∀ j, j < m → c j = c' j) → bestTo C c m = bestTo C c' m
 | 0, _ => rfl
 | m + 1, h => by rw [bestTo, bestTo, bestTo_congr m fun j hj => h j (by one_sign), h m (by one_sign)]
noncomputable def tab (C : Nat → Nat → Option Int) : Nat → List (Int × Nat)
 | 0 => [(0, 0)]
 | k + 1 => tab C k ++ [(bestTo (fun j => C j (k + 1)) (fun j => ((tab C k).getD j (0, 0)).1) (k + 1)).getD (0, 0)]
theorem tab_len (C : Nat → Nat → Option Int) : ∀ k, (tab C k).length = k + 1
 | 0 => rfl
 | k + 1 => by rw [tab, List.length_append, tab_len C k]; rfl
noncomputable def cost (C : Nat → Nat → Option Int) (k : Nat) : Int := ((tab C k).getD k (0, 0)).1
noncomputable def orig (C : Nat → Nat → Option Int) (k : Nat) : Nat := ((tab C k).getD k (0, 0)).2
theorem tab_get (C : Nat → Nat → Option Int) {j : Nat} : ∀ {k}, j ≤ k → (tab C k).getD j (0, 0) = (cost C j, orig C j)
 | 0, h => by
  obtain rfl : j = 0 := by one_sign
  rfl
 | k + 1, h => by
  by_cases q : j = k + 1
  ·subst q; rfl
  ·rw [tab, List.getD_eq_getElem?_getD, List.getElem?_append_left (by rw [tab_len]; one_sign), ← List.getD_eq_getElem?_getD]
   exact tab_get C (by one_sign)
theorem tab_step (C : Nat → Nat → Option Int) (k : Nat) : (cost C (k + 1), orig C (k + 1)) = (bestTo (fun j => C j (k + 1)) (cost C) (k + 1)).getD (0, 0) := by
 have : (tab C (k + 1)).getD (k + 1) (0, 0) = (bestTo (fun j => C j (k + 1)) (fun j => ((tab C k).getD j (0, 0)).1) (k + 1)).getD (0, 0) := by
  rw [tab, List.getD_eq_getElem?_getD, List.getElem?_append_right (by rw [tab_len]; one_sign), tab_len]; simp
 rw [bestTo_congr (c' := cost C) (k + 1) fun j hj => by rw [tab_get C (by one_sign)]] at this
 exact this
theorem tab_spec {C : Nat → Nat → Option Int} {k : Nat} (h : (C k (k + 1)).isSome = true) : ∃ x, orig C (k + 1) < k + 1 ∧ C (orig C (k + 1)) (k + 1) = some x ∧ cost C (k + 1) = cost C (orig C (k + 1)) + x ∧ (∀ j y, j < k + 1 → C j (k + 1) = some y → cost C (k + 1) ≤ cost C j + y) ∧ (∀ j y, j < orig C (k + 1) → C j (k + 1) = some y → cost C (k + 1) < cost C j + y) := by
 have e := tab_step C k
 rcases bestTo_spec (fun j => C j (k + 1)) (cost C) (k + 1) with ⟨_, b⟩ | ⟨o, x, h1, h2, h3, h4, h5⟩
 ·rw [b k (by one_sign)] at h; cases h
 ·rw [h3] at e
  have e1 : cost C (k + 1) = cost C o + x := congrArg Prod.fst e
  have e2 : orig C (k + 1) = o := congrArg Prod.snd e
  rw [e1, e2]
  exact ⟨x, h1, h2, rfl, h4, h5⟩
noncomputable def Dn : List Nat → Prop
 | [] => False
 | [a] => a = 0
 | k :: j :: t => j < k ∧ Dn (j :: t)
noncomputable def cw (C : Nat → Nat → Option Int) : List Nat → Option Int
 | k :: j :: t => (cw C (j :: t)).bind fun a => (C j k).map (a + ·)
 | _ => some 0
noncomputable def path (o : Nat → Nat) : Nat → Nat → List Nat
 | 0, k => [k]
 | f + 1, k => if k = 0 then [0] else k :: path o f (o k)
theorem path_head (o : Nat → Nat) : ∀ f k, ∃ t, path o f k = k :: t
 | 0, k => ⟨[], rfl⟩
 | f + 1, k => by
  unfold path
  split
  ·rename_i h; subst h; exact ⟨[], rfl⟩
  ·exact ⟨_, rfl⟩
section
variable {C : Nat → Nat → Option Int} (hC : ∀ k, (C k (k + 1)).isSome = true)
include hC
theorem path_ok : ∀ f k, k ≤ f → Dn (path (orig C) f k) ∧ cw C (path (orig C) f k) = some (cost C k)
 | 0, k, h => by
  obtain rfl : k = 0 := by one_sign
  exact ⟨rfl, rfl⟩
 | f + 1, 0, h => ⟨rfl, rfl⟩
 | f + 1, k + 1, h => by
  obtain ⟨x, h1, h2, h3, _, _⟩ := tab_spec (hC k)
  obtain ⟨i1, i2⟩ := path_ok f (orig C (k + 1)) (by one_sign)
  obtain ⟨t, e⟩ := path_head (orig C) f (orig C (k + 1))
  have ep : path (orig C) (f + 1) (k + 1) = (k + 1) :: path (orig C) f (orig C (k + 1)) := rfl
  rw [ep]
  rw [e] at i1 i2 ⊢
  refine ⟨⟨h1, i1⟩, ?_⟩
  rw [cw, i2, h2, h3]; rfl
theorem path_least {p : Nat → Int} {K : Nat} (hp : ∀ i j, i < j → j ≤ K → p i < p j) : ∀ f k, k ≤ f → k ≤ K → ∀ t w, Dn (k :: t) → cw C (k :: t) = some w →
  cost C k < w ∨ (cost C k = w ∧ (path (orig C) f k = k :: t ∨ ilt ((path (orig C) f k).map p) ((k :: t).map p) = true))
 | 0, k, h, _, t, w, d, hw => by
  obtain rfl : k = 0 := by one_sign
  cases t with
  | nil => cases hw; exact .inr ⟨rfl, .inl rfl⟩
  | cons j t => exact absurd d.1 (by one_sign)
 | f + 1, 0, h, _, t, w, d, hw => by
  cases t with
  | nil => cases hw; exact .inr ⟨rfl, .inl rfl⟩
  | cons j t => exact absurd d.1 (by one_sign)
 | f + 1, k + 1, h, hK, t, w, d, hw => by
  cases t with
  | nil => exact absurd d (by simp [Dn])
  | cons j t =>
   obtain ⟨d1, d2⟩ := d
   rw [cw] at hw
   cases qa : cw C (j :: t) with
   | none => rw [qa] at hw; cases hw
   | some a =>
    cases qc : C j (k + 1) with
    | none => rw [qa, qc] at hw; cases hw
    | some y =>
     rw [qa, qc] at hw
     have hw' : a + y = w := Option.some.inj hw
     obtain ⟨x, h1, h2, h3, h4, h5⟩ := tab_spec (hC k)
     have l1 := h4 j y d1 qc
     have ep : path (orig C) (f + 1) (k + 1) = (k + 1) :: path (orig C) f (orig C (k + 1)) := rfl
     rcases path_least hp f j (by one_sign) (by one_sign) t a d2 qa with g | ⟨g, g'⟩
     ·exact .inl (by one_sign)
     ·by_cases z : cost C (k + 1) < w
      ·exact .inl z
      ·have z1 : cost C (k + 1) = w := by one_sign
       refine .inr ⟨z1, ?_⟩
       have oj : ¬ j < orig C (k + 1) := fun hj => by have := h5 j y hj qc; one_sign
       by_cases y1 : orig C (k + 1) = j
       ·rw [ep, y1]
        rcases g' with g' | g'
        ·exact .inl (by rw [g'])
        ·refine .inr ?_
         show ilt (p (k + 1) :: (path (orig C) f j).map p) (p (k + 1) :: (j :: t).map p) = true
         rw [ilt_cons]; exact g'
       ·refine .inr ?_
        obtain ⟨t', e⟩ := path_head (orig C) f (orig C (k + 1))
        rw [ep, e]
        show ilt (p (k + 1) :: p (orig C (k + 1)) :: t'.map p) (p (k + 1) :: p j :: t.map p) = true
        rw [ilt_cons]
        exact ilt_lt (hp _ _ (by one_sign) (by one_sign))
end
noncomputable def brute (W : Nat → Option Int) (key : Nat → List Int) : Nat → Option (Int × Nat)
 | 0 => none
 | N + 1 => match W N with
  | none => brute W key N
  | some w => match brute W key N with
   | none => some (w, N)
   | some b => bif klt w (key N) b.1 (key b.2) then some (w, N) else some b
theorem brute_spec (W : Nat → Option Int) (key : Nat → List Int) : ∀ N, (brute W key N = none ∧ ∀ i, i < N → W i = none) ∨ ∃ i w, i < N ∧ W i = some w ∧ brute W key N = some (w, i) ∧ ∀ i' w', i' < N → W i' = some w' → klt w' (key i') w (key i) = false
 | 0 => .inl ⟨rfl, fun j h => by one_sign⟩
 | N + 1 => by
  have ih := brute_spec W key N
  have split : ∀ {j}, j < N + 1 → j < N ∨ j = N := fun h => by one_sign
  cases q : W N with
  | none =>
   have e : brute W key (N + 1) = brute W key N := by rw [brute, q]
   rw [e]
   rcases ih with ⟨a, b⟩ | ⟨i, w, h1, h2, h3, h4⟩
   ·refine .inl ⟨a, fun j hj => ?_⟩
    rcases split hj with hj | rfl
    ·exact b j hj
    ·exact q
   ·refine .inr ⟨i, w, by one_sign, h2, h3, fun j y hj hy => ?_⟩
    rcases split hj with hj | rfl
    ·exact h4 j y hj hy
    ·rw [q] at hy; cases hy
  | some z =>
   rcases ih with ⟨a, b⟩ | ⟨i, w, h1, h2, h3, h4⟩
   ·refine .inr ⟨N, z, by one_sign, q, by rw [brute, q, a], fun j y hj hy => ?_⟩
    rcases split hj with hj | rfl
    ·rw [b j hj] at hy; cases hy
    ·rw [q] at hy; cases hy; exact klt_irrefl _ _
   ·cases g : klt z (key N) w (key i) with
    | true =>
     refine .inr ⟨N, z, by one_sign, q, ?_, fun j y hj hy => ?_⟩
     ·rw [brute, q, h3]; show (bif klt z (key N) w (key i) then _ else _) = _; rw [g]; rfl
     ·rcases split hj with hj | rfl
      ·cases g2 : klt y (key j) z (key N) with
       | false => rfl
       | true => exact absurd (klt_trans g2 g) (by rw [h4 j y hj hy]; decide)
      ·rw [q] at hy; cases hy; exact klt_irrefl _ _
    | false =>
     refine .inr ⟨i, w, by one_sign, h2, ?_, fun j y hj hy => ?_⟩
     ·rw [brute, q, h3]; show (bif klt z (key N) w (key i) then _ else _) = _; rw [g]; rfl
     ·rcases split hj with hj | rfl
      ·exact h4 j y hj hy
      ·rw [q] at hy; cases hy; exact g
theorem brute_path {C : Nat → Nat → Option Int} (hC : ∀ k, (C k (k + 1)).isSome = true) {p : Nat → Int} {K N : Nat} (hp : ∀ i j, i < j → j ≤ K → p i < p j) (t : Nat → List Nat) (hv : ∀ i, i < N → Dn (K :: t i)) (he : ∃ i, i < N ∧ K :: t i = path (orig C) K K) :
  ∃ i, i < N ∧ brute (fun i => cw C (K :: t i)) (fun i => (t i).map p) N = some (cost C K, i) ∧ K :: t i = path (orig C) K K := by
 obtain ⟨i0, l0, e0⟩ := he
 obtain ⟨_, c0⟩ := path_ok hC K K (Nat.le_refl _)
 rcases brute_spec (fun i => cw C (K :: t i)) (fun i => (t i).map p) N with ⟨_, b⟩ | ⟨i, w, h1, h2, h3, h4⟩
 ·have := b i0 l0
  rw [e0, c0] at this; cases this
 ·have n := h4 i0 (cost C K) l0 (by rw [e0]; exact c0)
  have key : cost C K = w ∧ path (orig C) K K = K :: t i := by
   rcases path_least hC hp K K (Nat.le_refl _) (Nat.le_refl _) (t i) w (hv i h1) h2 with g | ⟨g, g'⟩
   ·have e : (cost C K == w) = false := beq_eq_false_iff_ne.mpr (by one_sign)
    unfold klt at n
    rw [e] at n
    exact absurd g (of_decide_eq_false n)
   ·refine ⟨g, ?_⟩
    rcases g' with g' | g'
    ·exact g'
    ·rw [← e0] at g'
     have g2 : ilt ((t i0).map p) ((t i).map p) = true := by
      have : ilt (p K :: (t i0).map p) (p K :: (t i).map p) = true := g'
      rwa [ilt_cons] at this
     unfold klt at n
     rw [g, beq_self_eq_true] at n
     have : ilt ((t i0).map p) ((t i).map p) = false := n
     rw [g2] at this; cases this
  refine ⟨i, h1, ?_, key.2.symm⟩
  rw [h3, key.1]
noncomputable def bitsL (m b : Nat) : List Nat := ((List.range m).filter fun k => decide (b / 2 ^ k % 2 = 1)).map (· + 1)
noncomputable def cand (m b : Nat) : List Nat := (0 :: bitsL m b).reverse
theorem bitsL_succ (m b : Nat) : bitsL (m + 1) b = bitsL m b ++ (if b / 2 ^ m % 2 = 1 then [m + 1] else []) := by
 unfold bitsL
 rw [List.range_succ, List.filter_append, List.map_append]
 by_cases q : b / 2 ^ m % 2 = 1 <;> simp [q]
theorem cand_dn (b : Nat) : ∀ m, ∃ j t, cand m b = j :: t ∧ j ≤ m ∧ Dn (j :: t)
 | 0 => ⟨0, [], rfl, by one_sign, rfl⟩
 | m + 1 => by
  obtain ⟨j, t, e, h1, h2⟩ := cand_dn b m
  unfold cand at e ⊢
  rw [bitsL_succ]
  by_cases q : b / 2 ^ m % 2 = 1
  ·rw [if_pos q]
   refine ⟨m + 1, j :: t, ?_, by one_sign, by one_sign, h2⟩
   rw [← e]; simp
  ·rw [if_neg q, List.append_nil]
   exact ⟨j, t, e, by one_sign, h2⟩
theorem bitsL_congr {m b b' : Nat} (h : ∀ k, k < m → (b / 2 ^ k % 2 = 1 ↔ b' / 2 ^ k % 2 = 1)) : bitsL m b = bitsL m b' := by
 unfold bitsL
 congr 1
 refine List.filter_congr fun k hk => ?_
 exact decide_eq_decide.mpr (h k (List.mem_range.mp hk))
theorem cand_all : ∀ m j t, Dn (j :: t) → j ≤ m → ∃ b, b < 2 ^ m ∧ cand m b = j :: t
 | 0, j, t, d, h => by
  obtain rfl : j = 0 := by one_sign
  cases t with
  | nil => exact ⟨0, by decide, rfl⟩
  | cons a t => exact absurd d.1 (by one_sign)
 | m + 1, j, t, d, h => by
  have hp : 2 ^ (m + 1) = 2 ^ m + 2 ^ m := by rw [Nat.pow_succ]; one_sign
  by_cases q : j = m + 1
  ·subst q
   cases t with
   | nil => exact absurd d (by simp [Dn])
   | cons a t =>
    obtain ⟨b, b1, b2⟩ := cand_all m a t d.2 (by have := d.1; one_sign)
    refine ⟨2 ^ m + b, by one_sign, ?_⟩
    have e1 : bitsL m (2 ^ m + b) = bitsL m b := bitsL_congr fun k hk => by
     have := Nat.testBit_two_pow_add_gt hk b
     rw [Nat.testBit_eq_decide_div_mod_eq, Nat.testBit_eq_decide_div_mod_eq] at this
     exact decide_eq_decide.mp this
    have e2 : (2 ^ m + b) / 2 ^ m % 2 = 1 := by
     have := Nat.testBit_two_pow_add_eq b m
     rw [Nat.testBit_lt_two_pow b1, Nat.testBit_eq_decide_div_mod_eq] at this
     exact of_decide_eq_true this
    unfold cand at b2 ⊢
    rw [bitsL_succ, e1, if_pos e2, ← b2]; simp
  ·obtain ⟨b, b1, b2⟩ := cand_all m j t d (by one_sign)
   refine ⟨b, by one_sign, ?_⟩
   have e2 : ¬ b / 2 ^ m % 2 = 1 := by
    have := Nat.testBit_lt_two_pow b1
    rw [Nat.testBit_eq_decide_div_mod_eq] at this
    exact of_decide_eq_false this
   unfold cand at b2 ⊢
   rw [bitsL_succ, if_neg e2, List.append_nil]; exact b2
noncomputable def prs : List Nat → List (Nat × Nat)
 | k :: j :: t => prs (j :: t) ++ [(j, k)]
 | _ => []
theorem prs_len : ∀ l : List Nat, (prs l).length = l.length - 1
 | [] => rfl
 | [_] => rfl
 | k :: j :: t => by rw [prs, List.length_append, prs_len (j :: t)]; simp
theorem zip_prs : ∀ l : List Nat, l.reverse.dropLast.zip l.reverse.tail = prs l
 | [] => rfl
 | [_] => rfl
 | k :: j :: t => by
  have ih := zip_prs (j :: t)
  rw [prs, ← ih]
  have e : (j :: t).reverse = t.reverse ++ [j] := List.reverse_cons
  rw [List.reverse_cons, List.dropLast_concat, e, List.dropLast_concat]
  cases q : t.reverse with
  | nil => rfl
  | cons a r =>
   show List.zip (a :: r ++ [j]) (r ++ [j] ++ [k]) = List.zip (a :: r) (r ++ [j]) ++ [(j, k)]
   rw [List.zip_append (by simp)]; rfl
noncomputable def fnd (o : Nat → Nat) : Nat → Nat → List (Nat × Nat)
 | 0, _ => []
 | f + 1, k => if k = 0 then [] else (o k, k) :: fnd o f (o k)
theorem fnd_prs (o : Nat → Nat) : ∀ f k, (fnd o f k).reverse = prs (path o f k)
 | 0, k => rfl
 | f + 1, k => by
  unfold fnd path
  split
  ·rfl
  ·obtain ⟨t, e⟩ := path_head o f (o k)
   rw [List.reverse_cons, fnd_prs o f (o k), e]; rfl
noncomputable def lc (R : Nat → Nat → Int) (K j k : Nat) : Option Int := if R j k < 0 ∧ j + 1 < k then none else some (if R j k < 0 ∨ k = K then 0 else R j k * R j k)
theorem lc_some (R : Nat → Nat → Int) (K k : Nat) : (lc R K k (k + 1)).isSome = true := by unfold lc; rw [if_neg (by one_sign)]; rfl
noncomputable def lwTo (rest : Int → Int → Int) (may : Int → Int → Bool) (ls : List (Int × Int)) : Nat → Option Int
 | 0 => some 0
 | i + 1 => (lwTo rest may ls i).bind fun a => if rest (ls.getD i (0, 0)).1 (ls.getD i (0, 0)).2 < 0 ∧ may (ls.getD i (0, 0)).1 (ls.getD i (0, 0)).2 = true then none else
   some (if 0 < rest (ls.getD i (0, 0)).1 (ls.getD i (0, 0)).2 ∧ i + 1 < ls.length then a + rest (ls.getD i (0, 0)).1 (ls.getD i (0, 0)).2 * rest (ls.getD i (0, 0)).1 (ls.getD i (0, 0)).2 else a)
noncomputable def mp2 (p : Nat → Int) (l : List (Nat × Nat)) : List (Int × Int) := l.map fun q => (p q.1, p q.2)
theorem dn_le : ∀ {s : List Nat} {k : Nat} {t : List Nat} {K : Nat} {t0 : List Nat}, K :: t0 = s ++ k :: t → Dn (K :: t0) → (s = [] → k = K) ∧ (s ≠ [] → k < K)
 | [], k, t, K, t0, e, d => by
  have := List.cons.inj e
  exact ⟨fun _ => this.1.symm, fun h => absurd rfl h⟩
 | a :: s, k, t, K, t0, e, d => by
  have e2 : t0 = s ++ k :: t := (List.cons.inj e).2
  refine ⟨fun h => (by cases h), fun _ => ?_⟩
  clear e
  cases t0 with
  | nil => cases s <;> cases e2
  | cons b t0 =>
   have := dn_le e2 d.2
   have hb := d.1
   cases s with
   | nil => have := this.1 rfl; one_sign
   | cons c s => have := this.2 (by simp); one_sign
theorem lwTo_cw {R : Nat → Nat → Int} {K : Nat} {p : Nat → Int} {rest : Int → Int → Int} {may : Int → Int → Bool} {t0 : List Nat} (hd : Dn (K :: t0)) (hr : ∀ j k, j < k → k ≤ K → rest (p j) (p k) = R j k) (hm : ∀ j k, j < k → k ≤ K → may (p j) (p k) = decide (j + 1 < k)) :
  ∀ (r s : List Nat), K :: t0 = s ++ r → Dn r → lwTo rest may (mp2 p (prs (K :: t0))) (prs r).length = cw (lc R K) r
 | [], s, e, d => d.elim
 | [a], s, e, d => rfl
 | k :: j :: t, s, e, d => by
  have ih := lwTo_cw hd hr hm (j :: t) (s ++ [k]) (by rw [e]; simp) d.2
  have hk := dn_le e hd
  have hkK : k ≤ K := by
   by_cases q : s = []
   ·have := hk.1 q; one_sign
   ·have := hk.2 q; one_sign
  rw [cw, prs, List.length_append]
  show lwTo _ _ _ ((prs (j :: t)).length + 1) = _
  rw [lwTo, ih]
  have pre : ∀ (s r : List Nat), ∃ l, prs (s ++ r) = prs r ++ l := fun s r => by
   induction s with
   | nil => exact ⟨[], by simp⟩
   | cons a s ih =>
    obtain ⟨l, hl⟩ := ih
    rw [List.cons_append]
    cases q : s ++ r with
    | nil =>
     obtain ⟨_, rfl⟩ := List.append_eq_nil_iff.mp q
     exact ⟨[], rfl⟩
    | cons b l' => rw [prs, ← q, hl]; exact ⟨l ++ [(b, a)], by simp⟩
  obtain ⟨l, hl⟩ := pre s (k :: j :: t)
  have eg : (mp2 p (prs (K :: t0))).getD (prs (j :: t)).length (0, 0) = (p j, p k) := by
   rw [e, hl, prs]
   unfold mp2
   rw [List.getD_eq_getElem?_getD, List.map_append, List.getElem?_append_left (by simp), List.map_append, List.getElem?_append_right (by simp)]
   simp
  have el : (prs (j :: t)).length + 1 < (mp2 p (prs (K :: t0))).length ↔ k ≠ K := by
   unfold mp2
   rw [List.length_map, prs_len, prs_len, e, List.length_append]
   simp only [List.length_cons]
   by_cases q : s = []
   ·have := hk.1 q; subst q; simp; one_sign
   ·have := hk.2 q
    have : 0 < s.length := List.length_pos_iff.mpr q
    one_sign
  rw [eg]
  simp only
  rw [hr j k d.1 hkK, hm j k d.1 hkK]
  cases cw (lc R K) (j :: t) with
  | none => rfl
  | some a =>
   show (if _ then _ else _) = (lc R K j k).map (a + ·)
   unfold lc
   by_cases c1 : R j k < 0 ∧ j + 1 < k
   ·rw [if_pos c1, if_pos ⟨c1.1, decide_eq_true c1.2⟩]; rfl
   ·rw [if_neg c1, if_neg (fun h => c1 ⟨h.1, of_decide_eq_true h.2⟩)]
    show some _ = some (a + (if _ then _ else _))
    congr 1
    by_cases c2 : R j k < 0 ∨ k = K
    ·rw [if_pos c2, if_neg (fun h => by rw [el] at h; rcases c2 with c2 | c2 <;> one_sign)]; one_sign
    ·by_cases c3 : 0 < R j k
     ·rw [if_neg c2, if_pos ⟨c3, el.mpr fun q => c2 (.inr q)⟩]
     ·have : R j k = 0 := by one_sign
      rw [if_neg c2, if_neg (fun h => c3 h.1), this]; simp
theorem even_part {R : Nat → Nat → Int} {m : Nat} {p : Nat → Int} {rest : Int → Int → Int} {may : Int → Int → Bool} (hp : ∀ i j, i < j → j ≤ m + 1 → p i < p j) (hr : ∀ j k, j < k → k ≤ m + 1 → rest (p j) (p k) = R j k) (hm : ∀ j k, j < k → k ≤ m + 1 → may (p j) (p k) = decide (j + 1 < k)) :
  ∃ i w, brute (fun b => lwTo rest may (mp2 p (prs ((m + 1) :: cand m b))) (prs ((m + 1) :: cand m b)).length) (fun b => (cand m b).map p) (2 ^ m) = some (w, i) ∧ prs ((m + 1) :: cand m i) = (fnd (orig (lc R (m + 1))) (m + 1) (m + 1)).reverse := by
 have hv : ∀ b, Dn ((m + 1) :: cand m b) := fun b => by
  obtain ⟨j, t, e, h1, h2⟩ := cand_dn b m
  rw [e]; exact ⟨by one_sign, h2⟩
 have hC := lc_some R (m + 1)
 have eW : (fun b => lwTo rest may (mp2 p (prs ((m + 1) :: cand m b))) (prs ((m + 1) :: cand m b)).length) = fun b => cw (lc R (m + 1)) ((m + 1) :: cand m b) := funext fun b => lwTo_cw (hv b) hr hm _ [] rfl (hv b)
 rw [eW]
 obtain ⟨d, _⟩ := path_ok hC (m + 1) (m + 1) (Nat.le_refl _)
 have he : ∃ i, i < 2 ^ m ∧ (m + 1) :: cand m i = path (orig (lc R (m + 1))) (m + 1) (m + 1) := by
  have ep : path (orig (lc R (m + 1))) (m + 1) (m + 1) = (m + 1) :: path (orig (lc R (m + 1))) m (orig (lc R (m + 1)) (m + 1)) := rfl
  obtain ⟨t, e⟩ := path_head (orig (lc R (m + 1))) m (orig (lc R (m + 1)) (m + 1))
  rw [ep, e] at d ⊢
  obtain ⟨b, b1, b2⟩ := cand_all m _ t d.2 (by have := d.1; one_sign)
  exact ⟨b, b1, by rw [b2]⟩
 obtain ⟨i, _, h2, h3⟩ := brute_path hC hp (cand m) (fun i _ => hv i) he
 exact ⟨i, _, h2, by rw [h3, fnd_prs]⟩
end
section
set_option tactic.hygienic false
noncomputable def wE (hang : Nat → Bool) : Nat → Nat
 | 0 => 0
 | k + 1 => if hang k = true then wE hang k else k + 1
theorem wE_le (hang : Nat → Bool) : ∀ k, wE hang k ≤ k
 | 0 => Nat.le_refl _
 | k + 1 => by
  unfold wE
  split
  ·have := wE_le hang k; one_sign
  ·one_sign
noncomputable def wid (ws : List Int) (hang : Nat → Bool) (a b : Nat) : Int := (ws.take (max a (wE hang b))).sum - (ws.take a).sum
noncomputable def wB (hang : Nat → Bool) (a : Nat) : Nat → Nat
 | 0 => 0
 | b + 1 => if a < b + 1 ∧ hang b = true then wB hang a b else b + 1
theorem wB_eq (hang : Nat → Bool) (a : Nat) : ∀ b, a ≤ b → wB hang a b = max a (wE hang b)
 | 0, h => by
  have : a = 0 := by one_sign
  subst this; rfl
 | b + 1, h => by
  have hl := wE_le hang (b + 1)
  unfold wB
  by_cases q : a < b + 1
  ·cases r : hang b with
   | true =>
    rw [if_pos ⟨q, rfl⟩, wB_eq hang a b (by one_sign), show wE hang (b + 1) = if hang b = true then wE hang b else b + 1 from rfl, if_pos r]
   | false =>
    rw [if_neg (fun h => by cases h.2), show wE hang (b + 1) = if hang b = true then wE hang b else b + 1 from rfl, if_neg (by rw [r]; decide)]; one_sign
  ·rw [if_neg (fun h => q h.1)]; one_sign
theorem sum_run (ws : List Int) {a b : Nat} (h : a ≤ b) : ((ws.drop a).take (b - a)).sum = (ws.take b).sum - (ws.take a).sum := by
 have : ws.take b = ws.take a ++ (ws.drop a).take (b - a) := by
  have e : b = a + (b - a) := by one_sign
  rw [e, List.take_add]; simp
 rw [this, List.sum_append]; one_sign
noncomputable def mays (may : Nat → Bool) (s e : Nat) : List Nat := ((List.range (e - (s + 1))).map (s + 1 + ·)).filter may
theorem mays_succ (may : Nat → Bool) {s e : Nat} (h : s + 1 ≤ e) : mays may s (e + 1) = mays may s e ++ (if may e = true then [e] else []) := by
 unfold mays
 rw [Nat.sub_add_comm h, List.range_succ, List.map_append, List.filter_append]
 congr 1
 show List.filter may [s + 1 + (e - (s + 1))] = _
 rw [Nat.add_sub_of_le h]
 by_cases q : may e = true <;> simp [q]
theorem mays_nil (may : Nat → Bool) (s : Nat) : mays may s (s + 1) = [] := by unfold mays; simp
theorem mem_mays {may : Nat → Bool} {s e a : Nat} : a ∈ mays may s e ↔ s < a ∧ a < e ∧ may a = true := by
 unfold mays
 rw [List.mem_filter, List.mem_map]
 constructor
 ·rintro ⟨⟨i, hi, rfl⟩, h⟩
  have := List.mem_range.mp hi
  exact ⟨Nat.lt_of_lt_of_le (Nat.lt_succ_self s) (Nat.le_add_right _ _), Nat.add_lt_of_lt_sub' this, h⟩
 ·rintro ⟨h1, h2, h3⟩
  exact ⟨⟨a - (s + 1), List.mem_range.mpr (Nat.sub_lt_sub_right h1 h2), Nat.add_sub_of_le h1⟩, h3⟩
theorem mays_pw (may : Nat → Bool) (s e : Nat) : (mays may s e).Pairwise (· < ·) := by
 unfold mays
 refine List.Pairwise.filter _ ?_
 rw [List.pairwise_map]
 exact List.pairwise_lt_range.imp fun h => by one_sign
noncomputable def prt (may : Nat → Bool) (s e : Nat) : List Nat := s :: (mays may s e ++ [e])
theorem prt_len (may : Nat → Bool) (s e : Nat) : (prt may s e).length = (mays may s e).length + 2 := by unfold prt; simp
theorem prt_pw (may : Nat → Bool) {s e : Nat} (h : s < e) : (prt may s e).Pairwise (· < ·) := by
 unfold prt
 rw [List.pairwise_cons, List.pairwise_append]
 refine ⟨fun a ha => ?_, mays_pw may s e, List.pairwise_singleton _ _, fun a ha b hb => ?_⟩
 ·rcases List.mem_append.mp ha with ha | ha
  ·exact (mem_mays.mp ha).1
  ·rw [List.mem_singleton.mp ha]; exact h
 ·rw [List.mem_singleton.mp hb]; exact (mem_mays.mp ha).2.1
theorem prt_mono {may : Nat → Bool} {s e : Nat} (h : s < e) {i j : Nat} (hij : i < j) (hj : j ≤ (mays may s e).length + 1) : (prt may s e).getD i 0 < (prt may s e).getD j 0 := by
 have hl := prt_len may s e
 have := List.pairwise_iff_getElem.mp (prt_pw may h) i j (by one_sign) (by one_sign) hij
 rw [List.getD_eq_getElem?_getD, List.getD_eq_getElem?_getD, List.getElem?_eq_getElem (by one_sign), List.getElem?_eq_getElem (by one_sign)]
 exact this
theorem prt_in {may : Nat → Bool} {s e i : Nat} (h0 : 0 < i) (h1 : i < (mays may s e).length + 1) : may ((prt may s e).getD i 0) = true := by
 obtain ⟨i, rfl⟩ : ∃ j, i = j + 1 := ⟨i - 1, by one_sign⟩
 unfold prt
 rw [List.getD_cons_succ, List.getD_eq_getElem?_getD, List.getElem?_append_left (by one_sign), List.getElem?_eq_getElem (by one_sign)]
 exact (mem_mays.mp (List.getElem_mem (by one_sign))).2.2
theorem prt_has {may : Nat → Bool} {s e a : Nat} (h : a ∈ mays may s e) : ∃ i, i < (mays may s e).length + 1 ∧ (prt may s e).getD i 0 = a := by
 obtain ⟨i, hi, e⟩ := List.mem_iff_getElem.mp h
 refine ⟨i + 1, by one_sign, ?_⟩
 unfold prt
 rw [List.getD_cons_succ, List.getD_eq_getElem?_getD, List.getElem?_append_left hi, List.getElem?_eq_getElem hi]
 exact e
theorem prt_ends {may : Nat → Bool} {s e : Nat} : (prt may s e).getD 0 0 = s ∧ (prt may s e).getD ((mays may s e).length + 1) 0 = e := by
 refine ⟨rfl, ?_⟩
 unfold prt
 rw [List.getD_cons_succ, List.getD_eq_getElem?_getD, List.getElem?_append_right (Nat.le_refl _)]; simp
theorem prt_may {may : Nat → Bool} {s e : Nat} (h : s < e) {j k : Nat} (hjk : j < k) (hk : k ≤ (mays may s e).length + 1) :
  (∃ a, (prt may s e).getD j 0 < a ∧ a < (prt may s e).getD k 0 ∧ may a = true) ↔ j + 1 < k := by
 have mono := fun {i j : Nat} => @prt_mono may s e h i j
 constructor
 ·rintro ⟨a, a1, a2, a3⟩
  have hs : s ≤ (prt may s e).getD j 0 := by
   by_cases q : j = 0
   ·subst q; rw [prt_ends.1]; one_sign
   ·have := mono (i := 0) (j := j) (by one_sign) (by one_sign)
    rw [prt_ends.1] at this; one_sign
  have he : (prt may s e).getD k 0 ≤ e := by
   by_cases q : k = (mays may s e).length + 1
   ·subst q; rw [prt_ends.2]; one_sign
   ·have := mono (i := k) (j := (mays may s e).length + 1) (by one_sign) (by one_sign)
    rw [prt_ends.2] at this; one_sign
  obtain ⟨i, hi, rfl⟩ := prt_has (mem_mays.mpr ⟨by one_sign, by one_sign, a3⟩ : a ∈ mays may s e)
  have l1 : j < i := by
   refine Nat.lt_of_not_le fun q => ?_
   by_cases z : i = j
   ·subst z; one_sign
   ·have := mono (i := i) (j := j) (by one_sign) (by one_sign); one_sign
  have l2 : i < k := by
   refine Nat.lt_of_not_le fun q => ?_
   by_cases z : k = i
   ·subst z; one_sign
   ·have := mono (i := k) (j := i) (by one_sign) (by one_sign); one_sign
  one_sign
 ·intro q
  exact ⟨_, mono (i := j) (j := j + 1) (by one_sign) (by one_sign), mono (i := j + 1) (j := k) q hk, prt_in (by one_sign) (by one_sign)⟩
noncomputable def dpPart (rest : Int → Int → Int) (part : List Nat) : List (Int × Int) := mp2 (fun i => ((part.getD i 0 : Nat) : Int)) (fnd (orig (lc (fun j k => rest (part.getD j 0 : Nat) (part.getD k 0 : Nat)) (part.length - 1))) (part.length - 1) (part.length - 1)).reverse
theorem dpPart_brute {rest : Int → Int → Int} {may : Nat → Bool} {mayI : Int → Int → Bool} {s e : Nat} (h : s < e) (hm : ∀ a b : Nat, mayI a b = true ↔ ∃ c, a < c ∧ c < b ∧ may c = true) :
  ∃ i w, brute (fun b => lwTo rest mayI (mp2 (fun i => (((prt may s e).getD i 0 : Nat) : Int)) (prs (((mays may s e).length + 1) :: cand (mays may s e).length b))) (prs (((mays may s e).length + 1) :: cand (mays may s e).length b)).length) (fun b => (cand (mays may s e).length b).map fun i => (((prt may s e).getD i 0 : Nat) : Int)) (2 ^ (mays may s e).length) = some (w, i) ∧
   mp2 (fun i => (((prt may s e).getD i 0 : Nat) : Int)) (prs (((mays may s e).length + 1) :: cand (mays may s e).length i)) = dpPart rest (prt may s e) := by
 obtain ⟨i, w, h1, h2⟩ := even_part (R := fun j k => rest ((prt may s e).getD j 0 : Nat) ((prt may s e).getD k 0 : Nat)) (m := (mays may s e).length) (p := fun i => (((prt may s e).getD i 0 : Nat) : Int)) (rest := rest) (may := mayI)
  (fun i j hij hj => by have := prt_mono (may := may) h hij hj; one_sign) (fun j k _ _ => rfl) (fun j k hjk hk => by
   have e1 := prt_may (may := may) h hjk hk
   rw [← hm] at e1
   rw [Bool.eq_iff_iff, e1, decide_eq_true_iff])
 refine ⟨i, w, h1, ?_⟩
 rw [h2]
 unfold dpPart
 rw [prt_len]; rfl
noncomputable def stE (rest : Int → Int → Int) (mu : Nat → Bool) (s : List (Int × Int) × List Nat) (c : Nat) : List (Int × Int) × List Nat := if mu c = true then (s.1 ++ dpPart rest (s.2 ++ [c]), [c]) else (s.1, s.2 ++ [c])
noncomputable def stL (rest : Int → Int → Int) (may : Nat → Bool) (s : List (Int × Int) × Nat) (e : Nat) : List (Int × Int) × Nat := (s.1 ++ dpPart rest (prt may s.2 e), e)
noncomputable def places (N : Nat) (f : Nat → Bool) : List Nat := ((List.range N).map (1 + ·)).filter f
theorem places_succ (N : Nat) (f : Nat → Bool) : places (N + 1) f = places N f ++ (if f (N + 1) = true then [N + 1] else []) := by
 unfold places
 rw [List.range_succ, List.map_append, List.filter_append]
 congr 1
 rw [Nat.add_comm N 1]
 by_cases q : f (1 + N) = true <;> simp [q]
theorem even_eq {rest : Int → Int → Int} {mu may cut : Nat → Bool} (h : ∀ k, cut k = (mu k || may k)) (hx : ∀ k, mu k = true → may k = false) : ∀ N,
  ((places N cut).foldl (stE rest mu) ([], [0])).1 = ((places N mu).foldl (stL rest may) ([], 0)).1 ∧ ((places N cut).foldl (stE rest mu) ([], [0])).2 = ((places N mu).foldl (stL rest may) ([], 0)).2 :: mays may ((places N mu).foldl (stL rest may) ([], 0)).2 (N + 1) ∧ ((places N mu).foldl (stL rest may) ([], 0)).2 ≤ N
 | 0 => ⟨rfl, by show [0] = 0 :: mays may 0 (0 + 1); rw [mays_nil], Nat.le_refl _⟩
 | N + 1 => by
  obtain ⟨i1, i2, i3⟩ := even_eq h hx N
  rw [places_succ N cut, places_succ N mu, List.foldl_append, List.foldl_append]
  revert i1 i2 i3
  generalize (places N cut).foldl (stE rest mu) ([], [0]) = E
  generalize (places N mu).foldl (stL rest may) ([], 0) = L
  obtain ⟨f, pt⟩ := E
  obtain ⟨g, st⟩ := L
  intro i1 i2 i3
  simp only at i1 i2 i3
  subst i1 i2
  have hc := h (N + 1)
  have ms : mays may st (N + 1 + 1) = mays may st (N + 1) ++ (if may (N + 1) = true then [N + 1] else []) := mays_succ may (by one_sign)
  cases qm : mu (N + 1) with
  | true =>
   rw [qm, Bool.true_or] at hc
   rw [hc]
   refine ⟨?_, ?_, ?_⟩
   ·show (stE rest mu (f, st :: mays may st (N + 1)) (N + 1)).1 = f ++ dpPart rest (prt may st (N + 1))
    unfold stE; rw [if_pos qm]; rfl
   ·show (stE rest mu (f, st :: mays may st (N + 1)) (N + 1)).2 = (N + 1) :: mays may (N + 1) (N + 1 + 1)
    unfold stE; rw [if_pos qm, mays_nil]
   ·exact Nat.le_refl _
  | false =>
   rw [qm, Bool.false_or] at hc
   rw [hc]
   cases qy : may (N + 1) with
   | true =>
    rw [qy, if_pos rfl] at ms
    refine ⟨?_, ?_, Nat.le_succ_of_le i3⟩
    ·show (stE rest mu (f, st :: mays may st (N + 1)) (N + 1)).1 = f
     unfold stE; rw [if_neg (by rw [qm]; decide)]
    ·show (stE rest mu (f, st :: mays may st (N + 1)) (N + 1)).2 = st :: mays may st (N + 1 + 1)
     rw [ms]
     unfold stE; rw [if_neg (by rw [qm]; decide)]; rfl
   | false =>
    refine ⟨rfl, ?_, Nat.le_succ_of_le i3⟩
    rw [qy, if_neg (by decide), List.append_nil] at ms
    show st :: mays may st (N + 1) = st :: mays may st (N + 1 + 1)
    rw [ms]
end
section
set_option tactic.hygienic false
section
variable {G : Gd} {n : Nat} {H : Hp} {env : Env} {m : Loc} {Q : D → Hp → Prop}
theorem CalC.pin {f : Value} {ds : List D} {Q' : D → Hp → Prop} (h : CalC G n H f ds Q') (q : ∀ d H', Q' d H' → ∃ a l, H' a = some (.dct l) ∧ ∀ ep, Q d (H'.set a (pinX G.w.params l ep))) : CalC G n H f ds Q := fun s vs i B A T O S =>
 codeAny_mono (h s vs i B A T O S) fun r s' ⟨v, d, H', e, a, b, c, z⟩ => by
  obtain ⟨x, l, hx, q⟩ := q d H' z
  obtain ⟨ep, S'⟩ := b.pin hx
  exact ⟨v, d, _, e, a, S', c, q ep⟩
theorem EvPB.eqNil {x p2 p3 a} {l : List D} (hx : EvP G n env m H x (.ref a)) (ha : H a = some (.lst l)) (hn : 1 ≤ n) : EvPB G n env m H (.Compare x [.Eq] [.List [] p2] p3) l.isEmpty :=
 EvB.p (EvB.cmp (hx.to (Ev.lst (EvL.nil ⟨Nat.le_of_ble_eq_true rfl, fun e he _ => Cmp.eqL (Hp.keep he ha) (Hp.set_self ..) (Tru.bool ⟨Sub.set he, by rw [leq_nil]⟩) zip_nil_dk hn⟩))))
theorem eqAt_ints {A : Around} {s : Shared} {x y : Addr} {vs ws : List Value} {xs : List Int} (t : s.heap.IsList x vs.toArray) (u : s.heap.IsList y ws.toArray) (i : IsL s.heap vs (xs.map .int)) (j : IsL s.heap ws (xs.map .int)) (hu : A.units < cLine) : EqAt A s (.ref x) (.ref y) true := by
 have lv := i.length
 have lw := j.length
 rw [List.length_map] at lv lw
 by_cases z : x = y
 ·subst z; exact EqAt.same _
 ·refine EqAt.of_refs z ?_
  have := RcAt.lists (A := A) t u (by rw [List.size_toArray, List.size_toArray]; one_sign) hu (e := fun k => xs.getD k 0 == xs.getD k 0) (fun k h1 h2 => by
   obtain ⟨t1, e1⟩ := ints_at i (j := k) (by rw [List.size_toArray] at h1; exact h1)
   obtain ⟨t2, e2⟩ := ints_at j (j := k) (by rw [List.size_toArray] at h2; exact h2)
   show EqAt _ _ vs[k] ws[k] _
   rw [e1, e2]; exact EqAt.int_int _ _ _ _)
  have ea : ((List.range vs.toArray.size).all fun k => xs.getD k 0 == xs.getD k 0) = true := by simp
  rw [ea] at this; exact this
theorem Cmp.eqLL {a b a1 a2 b1 b2 : Addr} {l1 l2 : List Int} (hA : H a = some (.lst [.ref a1, .ref a2])) (hB : H b = some (.lst [.ref b1, .ref b2])) (h1 : H a1 = some (.lst (l1.map .int))) (h2 : H a2 = some (.lst (l2.map .int))) (g1 : H b1 = some (.lst (l1.map .int))) (g2 : H b2 = some (.lst (l2.map .int)))
  (q : Q (.bool true) H) (hn : 1 ≤ n) : Cmp G n H .Eq (.ref a) (.ref b) Q := fun s v w i j B A T O S => by
 obtain rfl := i.inv
 obtain rfl := j.inv
 obtain ⟨_, vs, t, i⟩ := S.own _ _ hA
 obtain ⟨_, ws, u, j⟩ := S.own _ _ hB
 obtain ⟨_, vs1, t1, i1⟩ := S.own _ _ h1
 obtain ⟨_, vs2, t2, i2⟩ := S.own _ _ h2
 obtain ⟨_, ws1, u1, j1⟩ := S.own _ _ g1
 obtain ⟨_, ws2, u2, j2⟩ := S.own _ _ g2
 have hu : A.in1.units < cLine := by have := O.room hn; show A.units + 1 < _; one_sign
 refine cmp_ofEq ?_
 cases i with | @cons va _ _ _ ia i =>
 cases i with | @cons vb _ _ _ ib i =>
 cases i
 cases j with | @cons wa _ _ _ ja j =>
 cases j with | @cons wb _ _ _ jb j =>
 cases j
 obtain rfl := ia.inv
 obtain rfl := ib.inv
 obtain rfl := ja.inv
 obtain rfl := jb.inv
 refine RcAt.lists t.isList u.isList rfl O.u (e := fun _ => true) (fun k k1 k2 => ?_) _ _ _ _ ⟨_, _, .bool _, S, .refl _, q⟩
 have : k = 0 ∨ k = 1 := by have : k < 2 := k1; one_sign
 rcases this with rfl | rfl
 ·exact eqAt_ints t1.isList u1.isList i1 j1 hu
 ·exact eqAt_ints t2.isList u2.isList i2 j2 hu
end
end
namespace H
noncomputable abbrev prg : Program := PySem.Challenge.rw_on0381_03.row.toRowW.1
noncomputable def at_ (i : Nat) : Stmt := (PySem.Challenge.pw_on0381_03.main.body.drop i).headD (.Pass ⟨0, 0, 0, 0⟩)
noncomputable def in_ (i j : Nat) : Stmt := match at_ i with
 | .ClassDef _ _ _ b _ _ _ _ _ _ _ => (b.drop j).headD (.Pass ⟨0, 0, 0, 0⟩)
 | _ => .Pass ⟨0, 0, 0, 0⟩
noncomputable def ff (s : Stmt) (q : Str) (g : Addr) (d m c : Value) : FuncData := match s with
 | .FunctionDef n a b _ _ _ sc _ _ _ => ⟨n, q, a, .stmts b, sc, g, [], d, .none, .none, m, none, c, .none, 0⟩
 | _ => default
noncomputable abbrev fc (s : Stmt) (q : Str) : FuncData := ff s q 0 .none .none .none
noncomputable abbrev E (P : Params) (s : Str) (t : Nat) (v : Value) : DictEntry := ⟨PyData.keyHash P s, .str s t, v⟩
noncomputable section
abbrev e0 (P : Params) := E P "__doc__" 166 .none
abbrev e1 (P : Params) := E P "__package__" 167 .none
abbrev e2 (P : Params) := E P "__loader__" 168 (.builtin "__main__.__loader__#opaque")
abbrev e3 (P : Params) := E P "__spec__" 169 .none
abbrev e4 (P : Params) := E P "__annotations__" 170 (.ref 6)
abbrev e5 (P : Params) := E P "__builtins__" 171 (.ref 4)
abbrev e6 (P : Params) := E P "__file__" 173 (.str "/claim/cut.py" 172)
abbrev e7 (P : Params) := E P "__cached__" 174 .none
abbrev e8 (P : Params) := E P "_wall" 193 (.ref 21)
abbrev e9 (P : Params) := E P "MAX_CODE" 197 (.int 1114111 196)
abbrev e10 (P : Params) := E P "UniError" 226 (.ref 39)
abbrev e11 (P : Params) := E P "__module__" 205 (.str "unicore.base" 194)
abbrev e12 (P : Params) := E P "__firstlineno__" 209 (.int 6 208)
abbrev e13 (P : Params) := E P "__init__" 217 (.ref 36)
abbrev e14 (P : Params) := E P "__static_attributes__" 219 (.ref 37)
abbrev e15 (P : Params) := E P "__name__" 165 (.str "unicore.linebreaks" 254)
abbrev e16 (P : Params) := E P "BadRule" 242 (.ref 52)
abbrev e17 (P : Params) := E P "place_by_half" 253 (.ref 61)
abbrev e18 (P : Params) := E P "LINE_HARD" 260 (.ref 62)
abbrev e19 (P : Params) := E P "LINE_BARE" 267 (.ref 63)
abbrev e20 (P : Params) := E P "LINE_MARKS" 270 (.ref 64)
abbrev e21 (P : Params) := E P "LINE_PLAIN" 274 (.ref 65)
abbrev e22 (P : Params) := E P "LINE_CLOSING" 280 (.ref 66)
abbrev e23 (P : Params) := E P "LINE_AHEAD_OF_OPENING" 290 (.ref 67)
abbrev e24 (P : Params) := E P "LINE_BEHIND_CLOSING" 305 (.ref 68)
abbrev e25 (P : Params) := E P "LINE_ALPHABETIC" 308 (.ref 69)
abbrev e26 (P : Params) := E P "LINE_IDEOGRAPHIC" 312 (.ref 70)
abbrev e27 (P : Params) := E P "__module__" 234 (.str "unicore.base" 194)
abbrev e28 (P : Params) := E P "__firstlineno__" 238 (.int 10 237)
abbrev e29 (P : Params) := E P "__static_attributes__" 239 (.ref 50)
abbrev e30 (P : Params) := E P "LINE_AFFIXES" 315 (.ref 71)
abbrev e31 (P : Params) := E P "LINE_SYLLABIC" 321 (.ref 72)
abbrev e32 (P : Params) := E P "LINE_INNER" 325 (.ref 73)
abbrev e33 (P : Params) := E P "LINE_WIDE" 329 (.ref 74)
abbrev e34 (P : Params) := E P "LINE_KEPT" 339 (.ref 75)
abbrev e35 (P : Params) := E P "LINE_NUMBERS" 368 (.ref 90)
abbrev e36 (P : Params) := E P "LINE_JAMO" 389 (.ref 91)
abbrev e37 (P : Params) := E P "LINE_ITERATION" 396 (.ref 97)
abbrev e38 (P : Params) := E P "LINE_JAMO_RANGES" 415 (.ref 104)
abbrev e39 (P : Params) := E P "LINE_FIRST_SYLLABLE" 417 (.int 44032 416)
abbrev e40 (P : Params) := E P "LINE_LAST_SYLLABLE" 419 (.int 55203 418)
abbrev e41 (P : Params) := E P "LINE_TAILS" 421 (.int 28 420)
abbrev e42 (P : Params) := E P "DOTTED_CIRCLE" 423 (.int 9676 422)
abbrev e43 (P : Params) := E P "LineHow" 458 (.ref 122)
abbrev e44 (P : Params) := E P "line_hangul" 468 (.ref 133)
abbrev e45 (P : Params) := E P "line_class" 478 (.ref 140)
abbrev e46 (P : Params) := E P "__module__" 431 (.str "unicore.linebreaks" 254)
abbrev e47 (P : Params) := E P "__firstlineno__" 435 (.int 45 434)
abbrev e48 (P : Params) := E P "__init__" 447 (.ref 119)
abbrev e49 (P : Params) := E P "__static_attributes__" 451 (.ref 120)
abbrev e50 (P : Params) := E P "LineUnit" 512 (.ref 157)
abbrev e51 (P : Params) := E P "line_units" 525 (.ref 168)
abbrev e52 (P : Params) := E P "__module__" 486 (.str "unicore.linebreaks" 254)
abbrev e53 (P : Params) := E P "__firstlineno__" 490 (.int 73 489)
abbrev e54 (P : Params) := E P "__init__" 500 (.ref 154)
abbrev e55 (P : Params) := E P "__static_attributes__" 505 (.ref 155)
abbrev e56 (P : Params) := E P "LineView" 599 (.ref 213)
abbrev e57 (P : Params) := E P "line_rule_hard" 609 (.ref 224)
abbrev e58 (P : Params) := E P "__module__" 533 (.str "unicore.linebreaks" 254)
abbrev e59 (P : Params) := E P "__firstlineno__" 537 (.int 91 536)
abbrev e60 (P : Params) := E P "__init__" 552 (.ref 182)
abbrev e61 (P : Params) := E P "word" 560 (.ref 189)
abbrev e62 (P : Params) := E P "solid_word" 568 (.ref 196)
abbrev e63 (P : Params) := E P "is_quote" 577 (.ref 203)
abbrev e64 (P : Params) := E P "is_narrow" 585 (.ref 210)
abbrev e65 (P : Params) := E P "__static_attributes__" 592 (.ref 211)
abbrev e66 (P : Params) := E P "line_rule_spaces" 617 (.ref 231)
abbrev e67 (P : Params) := E P "line_rule_glue" 627 (.ref 238)
abbrev e68 (P : Params) := E P "line_rule_closing" 637 (.ref 245)
abbrev e69 (P : Params) := E P "line_rule_quotes" 646 (.ref 252)
abbrev e70 (P : Params) := E P "line_rule_over_spaces" 656 (.ref 259)
abbrev e71 (P : Params) := E P "line_rule_signs" 667 (.ref 266)
abbrev e72 (P : Params) := E P "line_rule_letters" 677 (.ref 273)
abbrev e73 (P : Params) := E P "line_is_number" 685 (.ref 280)
abbrev e74 (P : Params) := E P "line_rule_expression" 697 (.ref 287)
abbrev e75 (P : Params) := E P "line_rule_numbers" 705 (.ref 294)
abbrev e76 (P : Params) := E P "line_rule_syllables" 715 (.ref 301)
abbrev e77 (P : Params) := E P "line_is_aksara" 724 (.ref 308)
abbrev e78 (P : Params) := E P "line_rule_aksaras" 738 (.ref 315)
abbrev e79 (P : Params) := E P "line_rule_brackets" 748 (.ref 322)
abbrev e80 (P : Params) := E P "line_rule_pictures" 759 (.ref 329)
abbrev e81 (P : Params) := E P "line_verdict" 768 (.ref 336)
abbrev e82 (P : Params) := E P "line_verdicts" 780 (.ref 343)
abbrev e83 (P : Params) := E P "LineMeasure" 823 (.ref 367)
abbrev e84 (P : Params) := E P "line_even" 829 (.ref 376)
abbrev e85 (P : Params) := E P "line_even_part" 847 (.ref 383)
abbrev e86 (P : Params) := E P "__module__" 788 (.str "unicore.linebreaks" 254)
abbrev e87 (P : Params) := E P "__firstlineno__" 792 (.int 255 791)
abbrev e88 (P : Params) := E P "__init__" 803 (.ref 357)
abbrev e89 (P : Params) := E P "width" 813 (.ref 364)
abbrev e90 (P : Params) := E P "__static_attributes__" 816 (.ref 365)
abbrev e91 (P : Params) := E P "LineBreaks" 917 (.ref 432)
abbrev e92 (P : Params) := E P "__module__" 855 (.str "unicore.linebreaks" 254)
abbrev e93 (P : Params) := E P "__firstlineno__" 859 (.int 295 858)
abbrev e94 (P : Params) := E P "__init__" 868 (.ref 398)
abbrev e95 (P : Params) := E P "opportunities" 874 (.ref 403)
abbrev e96 (P : Params) := E P "reasons" 880 (.ref 408)
abbrev e97 (P : Params) := E P "measure" 886 (.ref 413)
abbrev e98 (P : Params) := E P "fit_lines" 897 (.ref 422)
abbrev e99 (P : Params) := E P "even_lines" 907 (.ref 429)
abbrev e100 (P : Params) := E P "__static_attributes__" 910 (.ref 430)
abbrev e101 (P : Params) := E P "range_are_like" 927 (.ref 443)
abbrev e102 (P : Params) := E P "RangeMap" 996 (.ref 488)
abbrev e103 (P : Params) := E P "__module__" 935 (.str "unicore.ranges" 918)
abbrev e104 (P : Params) := E P "__firstlineno__" 939 (.int 319 938)
abbrev e105 (P : Params) := E P "__init__" 947 (.ref 457)
abbrev e106 (P : Params) := E P "get" 955 (.ref 464)
abbrev e107 (P : Params) := E P "put" 970 (.ref 471)
abbrev e108 (P : Params) := E P "ranges" 977 (.ref 478)
abbrev e109 (P : Params) := E P "set_of" 985 (.ref 485)
abbrev e110 (P : Params) := E P "__static_attributes__" 989 (.ref 486)
abbrev e111 (P : Params) := E P "__name__" 165 (.str "law_on0381_03" 1066)
abbrev e112 (P : Params) := E P "data_defaults" 1006 (.ref 499)
abbrev e113 (P : Params) := E P "Data" 1065 (.ref 537)
abbrev e114 (P : Params) := E P "_law_signs" 1076 (.ref 542)
abbrev e115 (P : Params) := E P "__module__" 1014 (.str "unicore.data" 997)
abbrev e116 (P : Params) := E P "__firstlineno__" 1018 (.int 362 1017)
abbrev e117 (P : Params) := E P "__init__" 1025 (.ref 513)
abbrev e118 (P : Params) := E P "put" 1036 (.ref 520)
abbrev e119 (P : Params) := E P "get" 1045 (.ref 527)
abbrev e120 (P : Params) := E P "map_of" 1053 (.ref 534)
abbrev e121 (P : Params) := E P "__static_attributes__" 1058 (.ref 535)
end
noncomputable section
noncomputable abbrev ob (c : Value) (d : PySem.Data) : Params → Obj := fun _ => ⟨c, none, d, #[]⟩
noncomputable abbrev tu (a : Array Value) : Params → Obj := ob (.type "tuple") (.seq a 0)
noncomputable abbrev fi (a : Array Value) : Params → Obj := ob .none (.fields a)
noncomputable abbrev cd (a : Array Value) : Params → Obj := ob (.type "code") (.fields a)
noncomputable abbrev fu (d : FuncData) : Params → Obj := ob .none (.func d)
noncomputable abbrev fn (d : FuncData) : Params → Obj := ob (.type "function") (.func d)
noncomputable abbrev di (a : Params → Array DictEntry) (n : Nat) : Params → Obj := fun P => ⟨.type "dict", none, .dict (a P) n, #[]⟩
noncomputable abbrev I (n : Int) : Value := .int n 0
noncomputable abbrev R (a : Addr) : Value := .ref a
noncomputable abbrev C (t : Tok) : Value := .str "/claim/cut.py" t
noncomputable abbrev U (t : Tok) : Value := .str "unicore.linebreaks" t
abbrev o43 := tu #[]
abbrev o44 := fi #[]
abbrev o45 := cd #[(.str "<module>" 182), (.str "<module>" 183), (C 184), (I 1), (I 0), (I 0), (I 0), (I 0), (R 11), (.bool false), (I 181), (R 12), .none, .none, .none, .none, (I 185), (I 1), (C 186)]
noncomputable abbrev o46 (P : Params) : Obj := ⟨(.type "frame"), none, .plain, #[(some (R 13)), (some (R 3)), (some (R 3)), none, (some (.str "__main__" 164)), none, (some (R 0))]⟩
noncomputable abbrev o49 (P : Params) : Obj := ⟨.none, none, (.dict #[(E P "type.__subclasses__.Exception.0" 223 (I 39)), (E P "type.__subclasses__.Exception.n" 224 (I 1))] 2), #[]⟩
abbrev o50 := di (fun P => #[(E P "__name__" 165 (.str "unicore.base" 194)), e0 P, e1 P, e2 P, e3 P, e4 P, e5 P, e6 P, e7 P, e8 P, e9 P, e10 P]) 12
abbrev o51 := fi #[(I 1), (I 0), (R 20), (I 6), (I 0), (R 27)]
abbrev o52 := tu #[]
abbrev o53 := fi #[]
abbrev o54 := tu #[(.str "k" 190)]
abbrev o55 := tu #[]
abbrev o56 := fu (fc (at_ 0) "_wall")
abbrev o57 := cd #[(.str "_wall" 187), (.str "_wall" 188), (C 189), (I 1), (I 1), (I 0), (I 0), (I 3), (R 15), (.bool true), (I 181), (R 16), .none, (R 17), (R 18), (R 19), (I 191), (I 1), (C 192)]
abbrev o58 := fn (ff (at_ 0) "_wall" 3 .none (.str "__main__" 164) (R 20))
abbrev o59 := tu #[(.type "Exception")]
abbrev o60 := ob (.type "builtin_function_or_method") (.fields #[(.builtin "type.__prepare__"), (.type "type")])
abbrev o61 := di (fun P => #[e11 P, (E P "__qualname__" 207 (.str "UniError" 206)), e12 P, e13 P, e14 P]) 5
abbrev o62 := tu #[]
abbrev o63 := fi #[(I 8), (I 4), (R 35)]
abbrev o64 := cd #[(.str "UniError" 200), (.str "UniError" 201), (C 202), (I 6), (I 0), (I 0), (I 0), (I 0), (R 25), (.bool false), (I 181), (R 26), .none, .none, .none, .none, (I 203), (I 6), (C 204)]
noncomputable abbrev o65 (P : Params) : Obj := ⟨(.type "frame"), none, .plain, #[(some (R 27)), (some (R 3)), (some (R 24)), none, (some (.str "unicore.base" 194)), none, (some (R 0))]⟩
abbrev o66 := tu #[.none]
abbrev o67 := tu #[]
abbrev o68 := fi #[]
abbrev o69 := tu #[(.str "self" 213), (.str "told" 214)]
abbrev o70 := tu #[]
abbrev o71 := fu (fc (in_ 3 0) "UniError.__init__")
abbrev o72 := cd #[(.str "__init__" 210), (.str "UniError.__init__" 211), (C 212), (I 8), (I 2), (I 0), (I 0), (I 3), (R 30), (.bool true), (I 181), (R 31), .none, (R 32), (R 33), (R 34), (I 215), (I 8), (C 216)]
abbrev o73 := fn (ff (in_ 3 0) "UniError.__init__" 3 (R 29) (.str "unicore.base" 194) (R 35))
abbrev o74 := tu #[(.str "told" 218)]
abbrev o75 := di (fun P => #[e11 P, e12 P, e13 P, e14 P, (E P "__weakref__" 221 (R 40)), (E P "__doc__" 222 .none)]) 3
noncomputable abbrev o76 (P : Params) : Obj := ⟨(.type "type"), none, (.cls ⟨"UniError", [(.type "Exception")], [(R 39), (.type "Exception"), (.type "BaseException"), (.type "object")], 38, "UniError", true, [], [], false, none, false⟩), #[(some (R 22)), none, (some (.str "UniError" 198)), (some (.str "UniError" 206)), (some (.builtin "Exception.__new__")), (some (.bool true))]⟩
abbrev o77 := ob (.type "getset_descriptor") (.fields #[(.str "__weakref__" 220), (R 39), (.builtin "ExceptionGroup.__weakref__"), .none])
abbrev o78 := ob (.type "super") (.fields #[(R 39), (R 39), (R 39)])
abbrev o79 := ob (.type "builtin_function_or_method") (.fields #[(.builtin "object.__init_subclass__"), (R 39)])
abbrev o80 := di (fun P => #[e15 P, e0 P, e1 P, e2 P, e3 P, e4 P, e5 P, e6 P, e7 P, e8 P, e9 P, e10 P, e16 P, e17 P, e18 P, e19 P, e20 P, e21 P, e22 P, e23 P, e24 P, e25 P, e26 P]) 23
abbrev o81 := fi #[(I 1), (I 0), (R 20), (I 6), (I 0), (R 27), (I 10), (I 0), (R 48), (I 12), (I 0), (R 60)]
noncomputable abbrev o82 (P : Params) : Obj := ⟨(.type "type"), none, (.cls ⟨"UniError", [(.type "Exception")], [(R 39), (.type "Exception"), (.type "BaseException"), (.type "object")], 38, "UniError", true, [], [(R 52)], false, none, false⟩), #[(some (R 22)), none, (some (.str "UniError" 198)), (some (.str "UniError" 206)), (some (.builtin "Exception.__new__")), (some (.bool true))]⟩
abbrev o83 := tu #[(R 39)]
abbrev o84 := ob (.type "builtin_function_or_method") (.fields #[(.builtin "type.__prepare__"), (.type "type")])
abbrev o85 := di (fun P => #[e27 P, (E P "__qualname__" 236 (.str "BadRule" 235)), e28 P, e29 P]) 4
abbrev o86 := tu #[]
abbrev o87 := fi #[]
abbrev o88 := cd #[(.str "BadRule" 229), (.str "BadRule" 230), (C 231), (I 10), (I 0), (I 0), (I 0), (I 0), (R 46), (.bool false), (I 181), (R 47), .none, .none, .none, .none, (I 232), (I 10), (C 233)]
noncomputable abbrev o89 (P : Params) : Obj := ⟨(.type "frame"), none, .plain, #[(some (R 48)), (some (R 3)), (some (R 45)), none, (some (.str "unicore.base" 194)), none, (some (R 0))]⟩
abbrev o90 := tu #[]
abbrev o91 := di (fun P => #[e27 P, e28 P, e29 P, (E P "__doc__" 240 .none)]) 2
noncomputable abbrev o92 (P : Params) : Obj := ⟨(.type "type"), none, (.cls ⟨"BadRule", [(R 39)], [(R 52), (R 39), (.type "Exception"), (.type "BaseException"), (.type "object")], 51, "BadRule", true, [], [], false, none, false⟩), #[(some (R 43)), none, (some (.str "BadRule" 227)), (some (.str "BadRule" 235)), (some (.builtin "Exception.__new__")), (some (.bool true))]⟩
abbrev o93 := ob (.type "super") (.fields #[(R 52), (R 52), (R 52)])
abbrev o94 := ob (.type "builtin_function_or_method") (.fields #[(.builtin "object.__init_subclass__"), (R 52)])
abbrev o95 := tu #[]
abbrev o96 := fi #[]
abbrev o97 := tu #[(.str "firsts" 246), (.str "number" 247), (.str "low" 248), (.str "high" 249), (.str "middle" 250)]
abbrev o98 := tu #[]
abbrev o99 := fu (fc (at_ 5) "place_by_half")
abbrev o100 := cd #[(.str "place_by_half" 243), (.str "place_by_half" 244), (C 245), (I 12), (I 2), (I 0), (I 0), (I 3), (R 55), (.bool true), (I 181), (R 56), .none, (R 57), (R 58), (R 59), (I 251), (I 12), (C 252)]
abbrev o101 := fn (ff (at_ 5) "place_by_half" 3 .none (.str "unicore.base" 194) (R 60))
abbrev o102 := tu #[(.str "BK" 256), (.str "CR" 257), (.str "LF" 258), (.str "NL" 259)]
abbrev o103 := tu #[(.str "BK" 261), (.str "CR" 262), (.str "LF" 263), (.str "NL" 264), (.str "SP" 265), (.str "ZW" 266)]
abbrev o104 := tu #[(.str "CM" 268), (.str "ZWJ" 269)]
abbrev o105 := tu #[(.str "AI" 271), (.str "SG" 272), (.str "XX" 273)]
abbrev o106 := tu #[(.str "CL" 275), (.str "CP" 276), (.str "EX" 277), (.str "IS" 278), (.str "SY" 279)]
abbrev o107 := tu #[(.str "BK" 281), (.str "CR" 282), (.str "LF" 283), (.str "NL" 284), (.str "OP" 285), (.str "QU" 286), (.str "GL" 287), (.str "SP" 288), (.str "ZW" 289)]
abbrev o108 := tu #[(.str "SP" 291), (.str "GL" 292), (.str "WJ" 293), (.str "CL" 294), (.str "QU" 295), (.str "CP" 296), (.str "EX" 297), (.str "IS" 298), (.str "SY" 299), (.str "BK" 300), (.str "CR" 301), (.str "LF" 302), (.str "NL" 303), (.str "ZW" 304)]
abbrev o109 := tu #[(.str "AL" 306), (.str "HL" 307)]
abbrev o110 := tu #[(.str "ID" 309), (.str "EB" 310), (.str "EM" 311)]
abbrev o111 := di (fun P => #[e15 P, e0 P, e1 P, e2 P, e3 P, e4 P, e5 P, e6 P, e7 P, e8 P, e9 P, e10 P, e16 P, e17 P, e18 P, e19 P, e20 P, e21 P, e22 P, e23 P, e24 P, e25 P, e26 P, e30 P, e31 P, e32 P, e33 P, e34 P, e35 P, e36 P, e37 P, e38 P, e39 P, e40 P, e41 P, e42 P]) 36
abbrev o112 := tu #[(.str "PR" 313), (.str "PO" 314)]
abbrev o113 := tu #[(.str "JL" 316), (.str "JV" 317), (.str "JT" 318), (.str "H2" 319), (.str "H3" 320)]
abbrev o114 := tu #[(.str "NU" 322), (.str "SY" 323), (.str "IS" 324)]
abbrev o115 := tu #[(.str "F" 326), (.str "W" 327), (.str "H" 328)]
abbrev o116 := tu #[(.str "AL" 330), (.str "HL" 331), (.str "ID" 332), (.str "NU" 333), (.str "JL" 334), (.str "JV" 335), (.str "JT" 336), (.str "H2" 337), (.str "H3" 338)]
abbrev o117 := tu #[(.str "CL" 340), (.str "PO" 341)]
abbrev o118 := tu #[(.str "CP" 342), (.str "PO" 343)]
abbrev o119 := tu #[(.str "CL" 344), (.str "PR" 345)]
abbrev o120 := tu #[(.str "CP" 346), (.str "PR" 347)]
abbrev o121 := tu #[(.str "NU" 348), (.str "PO" 349)]
abbrev o122 := tu #[(.str "NU" 350), (.str "PR" 351)]
abbrev o123 := tu #[(.str "PO" 352), (.str "OP" 353)]
abbrev o124 := tu #[(.str "PO" 354), (.str "NU" 355)]
abbrev o125 := tu #[(.str "PR" 356), (.str "OP" 357)]
abbrev o126 := tu #[(.str "PR" 358), (.str "NU" 359)]
abbrev o127 := tu #[(.str "HY" 360), (.str "NU" 361)]
abbrev o128 := tu #[(.str "IS" 362), (.str "NU" 363)]
abbrev o129 := tu #[(.str "NU" 364), (.str "NU" 365)]
abbrev o130 := tu #[(.str "SY" 366), (.str "NU" 367)]
abbrev o131 := tu #[(R 76), (R 77), (R 78), (R 79), (R 80), (R 81), (R 82), (R 83), (R 84), (R 85), (R 86), (R 87), (R 88), (R 89)]
abbrev o132 := di (fun P => #[(E P "JL" 369 (R 92)), (E P "JV" 374 (R 93)), (E P "H2" 377 (R 94)), (E P "JT" 380 (R 95)), (E P "H3" 382 (R 96))]) 5
abbrev o133 := tu #[(.str "JL" 370), (.str "JV" 371), (.str "H2" 372), (.str "H3" 373)]
abbrev o134 := tu #[(.str "JV" 375), (.str "JT" 376)]
abbrev o135 := tu #[(.str "JV" 378), (.str "JT" 379)]
abbrev o136 := tu #[(.str "JT" 381)]
abbrev o137 := tu #[(.str "JT" 383)]
abbrev o138 := tu #[(.int 12293 390), (.int 12347 391), (.int 12445 392), (.int 12446 393), (.int 12541 394), (.int 12542 395)]
abbrev o139 := tu #[(.int 4352 397), (.int 4447 398), (.str "JL" 399)]
abbrev o140 := tu #[(.int 4448 400), (.int 4519 401), (.str "JV" 402)]
abbrev o141 := tu #[(.int 4520 403), (.int 4607 404), (.str "JT" 405)]
abbrev o142 := tu #[(.int 43360 406), (.int 43388 407), (.str "JL" 408)]
abbrev o143 := tu #[(.int 55216 409), (.int 55238 410), (.str "JV" 411)]
abbrev o144 := tu #[(.int 55243 412), (.int 55291 413), (.str "JT" 414)]
abbrev o145 := tu #[(R 98), (R 99), (R 100), (R 101), (R 102), (R 103)]
abbrev o148 := di (fun P => #[e15 P, e0 P, e1 P, e2 P, e3 P, e4 P, e5 P, e6 P, e7 P, e8 P, e9 P, e10 P, e16 P, e17 P, e18 P, e19 P, e20 P, e21 P, e22 P, e23 P, e24 P, e25 P, e26 P, e30 P, e31 P, e32 P, e33 P, e34 P, e35 P, e36 P, e37 P, e38 P, e39 P, e40 P, e41 P, e42 P, e43 P, e44 P, e45 P]) 39
abbrev o149 := fi #[(I 1), (I 0), (R 20), (I 6), (I 0), (R 27), (I 10), (I 0), (R 48), (I 12), (I 0), (R 60), (I 45), (I 0), (R 110), (I 55), (I 0), (R 132), (I 62), (I 0), (R 139)]
abbrev o150 := tu #[]
abbrev o151 := ob (.type "builtin_function_or_method") (.fields #[(.builtin "type.__prepare__"), (.type "type")])
abbrev o152 := di (fun P => #[e46 P, (E P "__qualname__" 433 (.str "LineHow" 432)), e47 P, e48 P, e49 P]) 5
abbrev o153 := tu #[]
abbrev o154 := fi #[(I 47), (I 4), (R 118)]
abbrev o155 := cd #[(.str "LineHow" 426), (.str "LineHow" 427), (C 428), (I 45), (I 0), (I 0), (I 0), (I 0), (R 108), (.bool false), (I 181), (R 109), .none, .none, .none, .none, (I 429), (I 45), (C 430)]
noncomputable abbrev o156 (P : Params) : Obj := ⟨(.type "frame"), none, .plain, #[(some (R 110)), (some (R 3)), (some (R 107)), none, (some (U 254)), none, (some (R 0))]⟩
abbrev o157 := tu #[(.str "strict" 436), (.bool false), (.str "pairs" 437)]
abbrev o158 := tu #[]
abbrev o159 := fi #[]
abbrev o160 := tu #[(.str "self" 441), (.str "strictness" 442), (.str "keep_all" 443), (.str "numbers" 444)]
abbrev o161 := tu #[]
abbrev o162 := fu (fc (in_ 29 0) "LineHow.__init__")
abbrev o163 := cd #[(.str "__init__" 438), (.str "LineHow.__init__" 439), (C 440), (I 47), (I 4), (I 0), (I 0), (I 3), (R 113), (.bool true), (I 181), (R 114), .none, (R 115), (R 116), (R 117), (I 445), (I 47), (C 446)]
abbrev o164 := fn (ff (in_ 29 0) "LineHow.__init__" 3 (R 112) (U 254) (R 118))
abbrev o165 := tu #[(.str "keep_all" 448), (.str "numbers" 449), (.str "strictness" 450)]
abbrev o166 := di (fun P => #[e46 P, e47 P, e48 P, e49 P, (E P "__dict__" 453 (R 123)), (E P "__weakref__" 455 (R 124)), (E P "__doc__" 456 .none)]) 4
noncomputable abbrev o167 (P : Params) : Obj := ⟨(.type "type"), none, (.cls ⟨"LineHow", [(.type "object")], [(R 122), (.type "object")], 121, "LineHow", true, [], [], false, none, false⟩), #[none, none, (some (.str "LineHow" 424)), (some (.str "LineHow" 432)), (some (.builtin "object.__new__")), (some (.bool true))]⟩
abbrev o168 := ob (.type "getset_descriptor") (.fields #[(.str "__dict__" 452), (R 122), (.builtin "function.__dict__"), (.builtin "function.__dict__#set")])
abbrev o169 := ob (.type "getset_descriptor") (.fields #[(.str "__weakref__" 454), (R 122), (.builtin "ExceptionGroup.__weakref__"), .none])
abbrev o170 := ob (.type "super") (.fields #[(R 122), (R 122), (R 122)])
abbrev o171 := ob (.type "builtin_function_or_method") (.fields #[(.builtin "object.__init_subclass__"), (R 122)])
abbrev o172 := tu #[]
abbrev o173 := fi #[]
abbrev o174 := tu #[(.str "code" 462), (.str "first" 463), (.str "last" 464), (.str "word" 465)]
abbrev o175 := tu #[]
abbrev o176 := fu (fc (at_ 30) "line_hangul")
abbrev o177 := cd #[(.str "line_hangul" 459), (.str "line_hangul" 460), (C 461), (I 55), (I 1), (I 0), (I 0), (I 3), (R 127), (.bool true), (I 181), (R 128), .none, (R 129), (R 130), (R 131), (I 466), (I 55), (C 467)]
abbrev o178 := fn (ff (at_ 30) "line_hangul" 3 .none (U 254) (R 132))
abbrev o179 := tu #[]
abbrev o180 := fi #[]
abbrev o181 := tu #[(.str "code" 472), (.str "data" 473), (.str "how" 474), (.str "word" 475)]
abbrev o182 := tu #[]
abbrev o183 := fu (fc (at_ 31) "line_class")
abbrev o184 := cd #[(.str "line_class" 469), (.str "line_class" 470), (C 471), (I 62), (I 3), (I 0), (I 0), (I 3), (R 134), (.bool true), (I 181), (R 135), .none, (R 136), (R 137), (R 138), (I 476), (I 62), (C 477)]
abbrev o185 := fn (ff (at_ 31) "line_class" 3 .none (U 254) (R 139))
abbrev o186 := di (fun P => #[e15 P, e0 P, e1 P, e2 P, e3 P, e4 P, e5 P, e6 P, e7 P, e8 P, e9 P, e10 P, e16 P, e17 P, e18 P, e19 P, e20 P, e21 P, e22 P, e23 P, e24 P, e25 P, e26 P, e30 P, e31 P, e32 P, e33 P, e34 P, e35 P, e36 P, e37 P, e38 P, e39 P, e40 P, e41 P, e42 P, e43 P, e44 P, e45 P, e50 P, e51 P]) 41
abbrev o187 := fi #[(I 1), (I 0), (R 20), (I 6), (I 0), (R 27), (I 10), (I 0), (R 48), (I 12), (I 0), (R 60), (I 45), (I 0), (R 110), (I 55), (I 0), (R 132), (I 62), (I 0), (R 139), (I 73), (I 0), (R 146), (I 80), (I 0), (R 167)]
abbrev o188 := tu #[]
abbrev o189 := ob (.type "builtin_function_or_method") (.fields #[(.builtin "type.__prepare__"), (.type "type")])
abbrev o190 := di (fun P => #[e52 P, (E P "__qualname__" 488 (.str "LineUnit" 487)), e53 P, e54 P, e55 P]) 5
abbrev o191 := tu #[]
abbrev o192 := fi #[(I 75), (I 4), (R 153)]
abbrev o193 := cd #[(.str "LineUnit" 481), (.str "LineUnit" 482), (C 483), (I 73), (I 0), (I 0), (I 0), (I 0), (R 144), (.bool false), (I 181), (R 145), .none, .none, .none, .none, (I 484), (I 73), (C 485)]
noncomputable abbrev o194 (P : Params) : Obj := ⟨(.type "frame"), none, .plain, #[(some (R 146)), (some (R 3)), (some (R 143)), none, (some (U 254)), none, (some (R 0))]⟩
abbrev o195 := tu #[]
abbrev o196 := fi #[]
abbrev o197 := tu #[(.str "self" 494), (.str "word" 495), (.str "code" 496), (.str "at" 497)]
abbrev o198 := tu #[]
abbrev o199 := fu (fc (in_ 32 0) "LineUnit.__init__")
abbrev o200 := cd #[(.str "__init__" 491), (.str "LineUnit.__init__" 492), (C 493), (I 75), (I 4), (I 0), (I 0), (I 3), (R 148), (.bool true), (I 181), (R 149), .none, (R 150), (R 151), (R 152), (I 498), (I 75), (C 499)]
abbrev o201 := fn (ff (in_ 32 0) "LineUnit.__init__" 3 .none (U 254) (R 153))
abbrev o202 := tu #[(.str "at" 501), (.str "code" 502), (.str "is_joined" 503), (.str "word" 504)]
abbrev o203 := di (fun P => #[e52 P, e53 P, e54 P, e55 P, (E P "__dict__" 507 (R 158)), (E P "__weakref__" 509 (R 159)), (E P "__doc__" 510 .none)]) 4
noncomputable abbrev o204 (P : Params) : Obj := ⟨(.type "type"), none, (.cls ⟨"LineUnit", [(.type "object")], [(R 157), (.type "object")], 156, "LineUnit", true, [], [], false, none, false⟩), #[none, none, (some (.str "LineUnit" 479)), (some (.str "LineUnit" 487)), (some (.builtin "object.__new__")), (some (.bool true))]⟩
abbrev o205 := ob (.type "getset_descriptor") (.fields #[(.str "__dict__" 506), (R 157), (.builtin "function.__dict__"), (.builtin "function.__dict__#set")])
abbrev o206 := ob (.type "getset_descriptor") (.fields #[(.str "__weakref__" 508), (R 157), (.builtin "ExceptionGroup.__weakref__"), .none])
abbrev o207 := ob (.type "super") (.fields #[(R 157), (R 157), (R 157)])
abbrev o208 := ob (.type "builtin_function_or_method") (.fields #[(.builtin "object.__init_subclass__"), (R 157)])
abbrev o209 := tu #[]
abbrev o210 := fi #[]
abbrev o211 := tu #[(.str "text" 516), (.str "data" 517), (.str "how" 518), (.str "found" 519), (.str "at" 520), (.str "code" 521), (.str "word" 522)]
abbrev o212 := tu #[]
abbrev o213 := fu (fc (at_ 33) "line_units")
abbrev o214 := cd #[(.str "line_units" 513), (.str "line_units" 514), (C 515), (I 80), (I 3), (I 0), (I 0), (I 3), (R 162), (.bool true), (I 181), (R 163), .none, (R 164), (R 165), (R 166), (I 523), (I 80), (C 524)]
abbrev o215 := fn (ff (at_ 33) "line_units" 3 .none (U 254) (R 167))
abbrev o216 := di (fun P => #[e15 P, e0 P, e1 P, e2 P, e3 P, e4 P, e5 P, e6 P, e7 P, e8 P, e9 P, e10 P, e16 P, e17 P, e18 P, e19 P, e20 P, e21 P, e22 P, e23 P, e24 P, e25 P, e26 P, e30 P, e31 P, e32 P, e33 P, e34 P, e35 P, e36 P, e37 P, e38 P, e39 P, e40 P, e41 P, e42 P, e43 P, e44 P, e45 P, e50 P, e51 P, e56 P, e57 P]) 43
abbrev o217 := fi #[(I 1), (I 0), (R 20), (I 6), (I 0), (R 27), (I 10), (I 0), (R 48), (I 12), (I 0), (R 60), (I 45), (I 0), (R 110), (I 55), (I 0), (R 132), (I 62), (I 0), (R 139), (I 73), (I 0), (R 146), (I 80), (I 0), (R 167), (I 91), (I 0), (R 174), (I 120), (I 0), (R 223)]
abbrev o218 := tu #[]
abbrev o219 := ob (.type "builtin_function_or_method") (.fields #[(.builtin "type.__prepare__"), (.type "type")])
abbrev o220 := di (fun P => #[e58 P, (E P "__qualname__" 535 (.str "LineView" 534)), e59 P, e60 P, e61 P, e62 P, e63 P, e64 P, e65 P]) 9
abbrev o221 := tu #[]
abbrev o222 := fi #[(I 93), (I 4), (R 181), (I 109), (I 4), (R 188), (I 112), (I 4), (R 195), (I 115), (I 4), (R 202), (I 118), (I 4), (R 209)]
abbrev o223 := cd #[(.str "LineView" 528), (.str "LineView" 529), (C 530), (I 91), (I 0), (I 0), (I 0), (I 0), (R 172), (.bool false), (I 181), (R 173), .none, .none, .none, .none, (I 531), (I 91), (C 532)]
noncomputable abbrev o224 (P : Params) : Obj := ⟨(.type "frame"), none, .plain, #[(some (R 174)), (some (R 3)), (some (R 171)), none, (some (U 254)), none, (some (R 0))]⟩
abbrev o225 := tu #[]
abbrev o226 := fi #[]
abbrev o227 := tu #[(.str "self" 541), (.str "text" 542), (.str "data" 543), (.str "how" 544), (.str "last" 545), (.str "many" 546), (.str "is_number" 547), (.str "place" 548), (.str "unit" 549)]
abbrev o228 := tu #[]
abbrev o229 := fu (fc (in_ 34 0) "LineView.__init__")
abbrev o230 := cd #[(.str "__init__" 538), (.str "LineView.__init__" 539), (C 540), (I 93), (I 4), (I 0), (I 0), (I 3), (R 176), (.bool true), (I 181), (R 177), .none, (R 178), (R 179), (R 180), (I 550), (I 93), (C 551)]
abbrev o231 := fn (ff (in_ 34 0) "LineView.__init__" 3 .none (U 254) (R 181))
abbrev o232 := tu #[]
abbrev o233 := fi #[]
abbrev o234 := tu #[(.str "self" 556), (.str "place" 557)]
abbrev o235 := tu #[]
abbrev o236 := fu (fc (in_ 34 1) "LineView.word")
abbrev o237 := cd #[(.str "word" 553), (.str "LineView.word" 554), (C 555), (I 109), (I 2), (I 0), (I 0), (I 3), (R 183), (.bool true), (I 181), (R 184), .none, (R 185), (R 186), (R 187), (I 558), (I 109), (C 559)]
abbrev o238 := fn (ff (in_ 34 1) "LineView.word" 3 .none (U 254) (R 188))
abbrev o239 := tu #[]
abbrev o240 := fi #[]
abbrev o241 := tu #[(.str "self" 564), (.str "place" 565)]
abbrev o242 := tu #[]
abbrev o243 := fu (fc (in_ 34 2) "LineView.solid_word")
abbrev o244 := cd #[(.str "solid_word" 561), (.str "LineView.solid_word" 562), (C 563), (I 112), (I 2), (I 0), (I 0), (I 3), (R 190), (.bool true), (I 181), (R 191), .none, (R 192), (R 193), (R 194), (I 566), (I 112), (C 567)]
abbrev o245 := fn (ff (in_ 34 2) "LineView.solid_word" 3 .none (U 254) (R 195))
abbrev o246 := tu #[]
abbrev o247 := fi #[]
abbrev o248 := tu #[(.str "self" 572), (.str "place" 573), (.str "kind" 574)]
abbrev o249 := tu #[]
abbrev o250 := fu (fc (in_ 34 3) "LineView.is_quote")
abbrev o251 := cd #[(.str "is_quote" 569), (.str "LineView.is_quote" 570), (C 571), (I 115), (I 3), (I 0), (I 0), (I 3), (R 197), (.bool true), (I 181), (R 198), .none, (R 199), (R 200), (R 201), (I 575), (I 115), (C 576)]
abbrev o252 := fn (ff (in_ 34 3) "LineView.is_quote" 3 .none (U 254) (R 202))
abbrev o253 := tu #[]
abbrev o254 := fi #[]
abbrev o255 := tu #[(.str "self" 581), (.str "place" 582)]
abbrev o256 := tu #[]
abbrev o257 := fu (fc (in_ 34 4) "LineView.is_narrow")
abbrev o258 := cd #[(.str "is_narrow" 578), (.str "LineView.is_narrow" 579), (C 580), (I 118), (I 2), (I 0), (I 0), (I 3), (R 204), (.bool true), (I 181), (R 205), .none, (R 206), (R 207), (R 208), (I 583), (I 118), (C 584)]
abbrev o259 := fn (ff (in_ 34 4) "LineView.is_narrow" 3 .none (U 254) (R 209))
abbrev o260 := tu #[(.str "data" 586), (.str "how" 587), (.str "numeric" 588), (.str "regional" 589), (.str "solid" 590), (.str "units" 591)]
abbrev o261 := di (fun P => #[e58 P, e59 P, e60 P, e61 P, e62 P, e63 P, e64 P, e65 P, (E P "__dict__" 594 (R 214)), (E P "__weakref__" 596 (R 215)), (E P "__doc__" 597 .none)]) 4
noncomputable abbrev o262 (P : Params) : Obj := ⟨(.type "type"), none, (.cls ⟨"LineView", [(.type "object")], [(R 213), (.type "object")], 212, "LineView", true, [], [], false, none, false⟩), #[none, none, (some (.str "LineView" 526)), (some (.str "LineView" 534)), (some (.builtin "object.__new__")), (some (.bool true))]⟩
abbrev o263 := ob (.type "getset_descriptor") (.fields #[(.str "__dict__" 593), (R 213), (.builtin "function.__dict__"), (.builtin "function.__dict__#set")])
abbrev o264 := ob (.type "getset_descriptor") (.fields #[(.str "__weakref__" 595), (R 213), (.builtin "ExceptionGroup.__weakref__"), .none])
abbrev o265 := ob (.type "super") (.fields #[(R 213), (R 213), (R 213)])
abbrev o266 := ob (.type "builtin_function_or_method") (.fields #[(.builtin "object.__init_subclass__"), (R 213)])
abbrev o267 := tu #[]
abbrev o268 := fi #[]
abbrev o269 := tu #[(.str "view" 603), (.str "at" 604), (.str "a" 605), (.str "b" 606)]
abbrev o270 := tu #[]
abbrev o271 := fu (fc (at_ 35) "line_rule_hard")
abbrev o272 := cd #[(.str "line_rule_hard" 600), (.str "line_rule_hard" 601), (C 602), (I 120), (I 2), (I 0), (I 0), (I 3), (R 218), (.bool true), (I 181), (R 219), .none, (R 220), (R 221), (R 222), (I 607), (I 120), (C 608)]
abbrev o273 := fn (ff (at_ 35) "line_rule_hard" 3 .none (U 254) (R 223))
abbrev o274 := di (fun P => #[e15 P, e0 P, e1 P, e2 P, e3 P, e4 P, e5 P, e6 P, e7 P, e8 P, e9 P, e10 P, e16 P, e17 P, e18 P, e19 P, e20 P, e21 P, e22 P, e23 P, e24 P, e25 P, e26 P, e30 P, e31 P, e32 P, e33 P, e34 P, e35 P, e36 P, e37 P, e38 P, e39 P, e40 P, e41 P, e42 P, e43 P, e44 P, e45 P, e50 P, e51 P, e56 P, e57 P, e66 P, e67 P, e68 P, e69 P, e70 P, e71 P, e72 P, e73 P, e74 P, e75 P, e76 P, e77 P]) 55
abbrev o275 := fi #[(I 1), (I 0), (R 20), (I 6), (I 0), (R 27), (I 10), (I 0), (R 48), (I 12), (I 0), (R 60), (I 45), (I 0), (R 110), (I 55), (I 0), (R 132), (I 62), (I 0), (R 139), (I 73), (I 0), (R 146), (I 80), (I 0), (R 167), (I 91), (I 0), (R 174), (I 120), (I 0), (R 223), (I 129), (I 0), (R 230), (I 135), (I 0), (R 237), (I 142), (I 0), (R 244), (I 149), (I 0), (R 251), (I 156), (I 0), (R 258), (I 163), (I 0), (R 265), (I 177), (I 0), (R 272), (I 186), (I 0), (R 279), (I 188), (I 0), (R 286), (I 199), (I 0), (R 293), (I 203), (I 0), (R 300), (I 210), (I 0), (R 307)]
abbrev o276 := tu #[]
abbrev o277 := fi #[]
abbrev o278 := tu #[(.str "view" 613), (.str "at" 614)]
abbrev o279 := tu #[]
abbrev o280 := fu (fc (at_ 36) "line_rule_spaces")
abbrev o281 := cd #[(.str "line_rule_spaces" 610), (.str "line_rule_spaces" 611), (C 612), (I 129), (I 2), (I 0), (I 0), (I 3), (R 225), (.bool true), (I 181), (R 226), .none, (R 227), (R 228), (R 229), (I 615), (I 129), (C 616)]
abbrev o282 := fn (ff (at_ 36) "line_rule_spaces" 3 .none (U 254) (R 230))
abbrev o283 := tu #[]
abbrev o284 := fi #[]
abbrev o285 := tu #[(.str "view" 621), (.str "at" 622), (.str "a" 623), (.str "b" 624)]
abbrev o286 := tu #[]
abbrev o287 := fu (fc (at_ 37) "line_rule_glue")
abbrev o288 := cd #[(.str "line_rule_glue" 618), (.str "line_rule_glue" 619), (C 620), (I 135), (I 2), (I 0), (I 0), (I 3), (R 232), (.bool true), (I 181), (R 233), .none, (R 234), (R 235), (R 236), (I 625), (I 135), (C 626)]
abbrev o289 := fn (ff (at_ 37) "line_rule_glue" 3 .none (U 254) (R 237))
abbrev o290 := tu #[]
abbrev o291 := fi #[]
abbrev o292 := tu #[(.str "view" 631), (.str "at" 632), (.str "b" 633), (.str "is_left" 634)]
abbrev o293 := tu #[]
abbrev o294 := fu (fc (at_ 38) "line_rule_closing")
abbrev o295 := cd #[(.str "line_rule_closing" 628), (.str "line_rule_closing" 629), (C 630), (I 142), (I 2), (I 0), (I 0), (I 3), (R 239), (.bool true), (I 181), (R 240), .none, (R 241), (R 242), (R 243), (I 635), (I 142), (C 636)]
abbrev o296 := fn (ff (at_ 38) "line_rule_closing" 3 .none (U 254) (R 244))
abbrev o297 := tu #[]
abbrev o298 := fi #[]
abbrev o299 := tu #[(.str "view" 641), (.str "at" 642), (.str "quote" 643)]
abbrev o300 := tu #[]
abbrev o301 := fu (fc (at_ 39) "line_rule_quotes")
abbrev o302 := cd #[(.str "line_rule_quotes" 638), (.str "line_rule_quotes" 639), (C 640), (I 149), (I 2), (I 0), (I 0), (I 3), (R 246), (.bool true), (I 181), (R 247), .none, (R 248), (R 249), (R 250), (I 644), (I 149), (C 645)]
abbrev o303 := fn (ff (at_ 39) "line_rule_quotes" 3 .none (U 254) (R 251))
abbrev o304 := tu #[]
abbrev o305 := fi #[]
abbrev o306 := tu #[(.str "view" 650), (.str "at" 651), (.str "solid" 652), (.str "b" 653)]
abbrev o307 := tu #[]
abbrev o308 := fu (fc (at_ 40) "line_rule_over_spaces")
abbrev o309 := cd #[(.str "line_rule_over_spaces" 647), (.str "line_rule_over_spaces" 648), (C 649), (I 156), (I 2), (I 0), (I 0), (I 3), (R 253), (.bool true), (I 181), (R 254), .none, (R 255), (R 256), (R 257), (I 654), (I 156), (C 655)]
abbrev o310 := fn (ff (at_ 40) "line_rule_over_spaces" 3 .none (U 254) (R 258))
abbrev o311 := tu #[]
abbrev o312 := fi #[]
abbrev o313 := tu #[(.str "view" 660), (.str "at" 661), (.str "a" 662), (.str "b" 663), (.str "is_parted" 664)]
abbrev o314 := tu #[]
abbrev o315 := fu (fc (at_ 41) "line_rule_signs")
abbrev o316 := cd #[(.str "line_rule_signs" 657), (.str "line_rule_signs" 658), (C 659), (I 163), (I 2), (I 0), (I 0), (I 3), (R 260), (.bool true), (I 181), (R 261), .none, (R 262), (R 263), (R 264), (I 665), (I 163), (C 666)]
abbrev o317 := fn (ff (at_ 41) "line_rule_signs" 3 .none (U 254) (R 265))
abbrev o318 := tu #[]
abbrev o319 := fi #[]
abbrev o320 := tu #[(.str "view" 671), (.str "at" 672), (.str "a" 673), (.str "b" 674)]
abbrev o321 := tu #[]
abbrev o322 := fu (fc (at_ 42) "line_rule_letters")
abbrev o323 := cd #[(.str "line_rule_letters" 668), (.str "line_rule_letters" 669), (C 670), (I 177), (I 2), (I 0), (I 0), (I 3), (R 267), (.bool true), (I 181), (R 268), .none, (R 269), (R 270), (R 271), (I 675), (I 177), (C 676)]
abbrev o324 := fn (ff (at_ 42) "line_rule_letters" 3 .none (U 254) (R 272))
abbrev o325 := tu #[]
abbrev o326 := fi #[]
abbrev o327 := tu #[(.str "view" 681), (.str "place" 682)]
abbrev o328 := tu #[]
abbrev o329 := fu (fc (at_ 43) "line_is_number")
abbrev o330 := cd #[(.str "line_is_number" 678), (.str "line_is_number" 679), (C 680), (I 186), (I 2), (I 0), (I 0), (I 3), (R 274), (.bool true), (I 181), (R 275), .none, (R 276), (R 277), (R 278), (I 683), (I 186), (C 684)]
abbrev o331 := fn (ff (at_ 43) "line_is_number" 3 .none (U 254) (R 279))
abbrev o332 := tu #[]
abbrev o333 := fi #[]
abbrev o334 := tu #[(.str "view" 689), (.str "at" 690), (.str "a" 691), (.str "b" 692), (.str "is_begun" 693), (.str "end" 694)]
abbrev o335 := tu #[]
abbrev o336 := fu (fc (at_ 44) "line_rule_expression")
abbrev o337 := cd #[(.str "line_rule_expression" 686), (.str "line_rule_expression" 687), (C 688), (I 188), (I 2), (I 0), (I 0), (I 3), (R 281), (.bool true), (I 181), (R 282), .none, (R 283), (R 284), (R 285), (I 695), (I 188), (C 696)]
abbrev o338 := fn (ff (at_ 44) "line_rule_expression" 3 .none (U 254) (R 286))
abbrev o339 := tu #[]
abbrev o340 := fi #[]
abbrev o341 := tu #[(.str "view" 701), (.str "at" 702)]
abbrev o342 := tu #[]
abbrev o343 := fu (fc (at_ 45) "line_rule_numbers")
abbrev o344 := cd #[(.str "line_rule_numbers" 698), (.str "line_rule_numbers" 699), (C 700), (I 199), (I 2), (I 0), (I 0), (I 3), (R 288), (.bool true), (I 181), (R 289), .none, (R 290), (R 291), (R 292), (I 703), (I 199), (C 704)]
abbrev o345 := fn (ff (at_ 45) "line_rule_numbers" 3 .none (U 254) (R 293))
abbrev o346 := tu #[]
abbrev o347 := fi #[]
abbrev o348 := tu #[(.str "view" 709), (.str "at" 710), (.str "a" 711), (.str "b" 712)]
abbrev o349 := tu #[]
abbrev o350 := fu (fc (at_ 46) "line_rule_syllables")
abbrev o351 := cd #[(.str "line_rule_syllables" 706), (.str "line_rule_syllables" 707), (C 708), (I 203), (I 2), (I 0), (I 0), (I 3), (R 295), (.bool true), (I 181), (R 296), .none, (R 297), (R 298), (R 299), (I 713), (I 203), (C 714)]
abbrev o352 := fn (ff (at_ 46) "line_rule_syllables" 3 .none (U 254) (R 300))
abbrev o353 := tu #[]
abbrev o354 := fi #[]
abbrev o355 := tu #[(.str "view" 719), (.str "place" 720), (.str "words" 721)]
abbrev o356 := tu #[]
abbrev o357 := fu (fc (at_ 47) "line_is_aksara")
abbrev o358 := cd #[(.str "line_is_aksara" 716), (.str "line_is_aksara" 717), (C 718), (I 210), (I 3), (I 0), (I 0), (I 3), (R 302), (.bool true), (I 181), (R 303), .none, (R 304), (R 305), (R 306), (I 722), (I 210), (C 723)]
abbrev o359 := fn (ff (at_ 47) "line_is_aksara" 3 .none (U 254) (R 307))
abbrev o360 := di (fun P => #[e15 P, e0 P, e1 P, e2 P, e3 P, e4 P, e5 P, e6 P, e7 P, e8 P, e9 P, e10 P, e16 P, e17 P, e18 P, e19 P, e20 P, e21 P, e22 P, e23 P, e24 P, e25 P, e26 P, e30 P, e31 P, e32 P, e33 P, e34 P, e35 P, e36 P, e37 P, e38 P, e39 P, e40 P, e41 P, e42 P, e43 P, e44 P, e45 P, e50 P, e51 P, e56 P, e57 P, e66 P, e67 P, e68 P, e69 P, e70 P, e71 P, e72 P, e73 P, e74 P, e75 P, e76 P, e77 P, e78 P, e79 P, e80 P, e81 P, e82 P]) 60
abbrev o361 := fi #[(I 1), (I 0), (R 20), (I 6), (I 0), (R 27), (I 10), (I 0), (R 48), (I 12), (I 0), (R 60), (I 45), (I 0), (R 110), (I 55), (I 0), (R 132), (I 62), (I 0), (R 139), (I 73), (I 0), (R 146), (I 80), (I 0), (R 167), (I 91), (I 0), (R 174), (I 120), (I 0), (R 223), (I 129), (I 0), (R 230), (I 135), (I 0), (R 237), (I 142), (I 0), (R 244), (I 149), (I 0), (R 251), (I 156), (I 0), (R 258), (I 163), (I 0), (R 265), (I 177), (I 0), (R 272), (I 186), (I 0), (R 279), (I 188), (I 0), (R 286), (I 199), (I 0), (R 293), (I 203), (I 0), (R 300), (I 210), (I 0), (R 307), (I 214), (I 0), (R 314), (I 221), (I 0), (R 321), (I 230), (I 0), (R 328), (I 241), (I 0), (R 335), (I 247), (I 0), (R 342)]
abbrev o362 := tu #[]
abbrev o363 := fi #[]
abbrev o364 := tu #[(.str "view" 728), (.str "at" 729), (.str "a" 730), (.str "b" 731), (.str "every" 732), (.str "is_left" 733), (.str "is_right" 734), (.str "is_held" 735)]
abbrev o365 := tu #[]
abbrev o366 := fu (fc (at_ 48) "line_rule_aksaras")
abbrev o367 := cd #[(.str "line_rule_aksaras" 725), (.str "line_rule_aksaras" 726), (C 727), (I 214), (I 2), (I 0), (I 0), (I 3), (R 309), (.bool true), (I 181), (R 310), .none, (R 311), (R 312), (R 313), (I 736), (I 214), (C 737)]
abbrev o368 := fn (ff (at_ 48) "line_rule_aksaras" 3 .none (U 254) (R 314))
abbrev o369 := tu #[]
abbrev o370 := fi #[]
abbrev o371 := tu #[(.str "view" 742), (.str "at" 743), (.str "a" 744), (.str "b" 745)]
abbrev o372 := tu #[]
abbrev o373 := fu (fc (at_ 49) "line_rule_brackets")
abbrev o374 := cd #[(.str "line_rule_brackets" 739), (.str "line_rule_brackets" 740), (C 741), (I 221), (I 2), (I 0), (I 0), (I 3), (R 316), (.bool true), (I 181), (R 317), .none, (R 318), (R 319), (R 320), (I 746), (I 221), (C 747)]
abbrev o375 := fn (ff (at_ 49) "line_rule_brackets" 3 .none (U 254) (R 321))
abbrev o376 := tu #[]
abbrev o377 := fi #[]
abbrev o378 := tu #[(.str "view" 752), (.str "at" 753), (.str "a" 754), (.str "b" 755), (.str "code" 756)]
abbrev o379 := tu #[]
abbrev o380 := fu (fc (at_ 50) "line_rule_pictures")
abbrev o381 := cd #[(.str "line_rule_pictures" 749), (.str "line_rule_pictures" 750), (C 751), (I 230), (I 2), (I 0), (I 0), (I 3), (R 323), (.bool true), (I 181), (R 324), .none, (R 325), (R 326), (R 327), (I 757), (I 230), (C 758)]
abbrev o382 := fn (ff (at_ 50) "line_rule_pictures" 3 .none (U 254) (R 328))
abbrev o383 := tu #[]
abbrev o384 := fi #[]
abbrev o385 := tu #[(.str "view" 763), (.str "at" 764), (.str "told" 765)]
abbrev o386 := tu #[]
abbrev o387 := fu (fc (at_ 51) "line_verdict")
abbrev o388 := cd #[(.str "line_verdict" 760), (.str "line_verdict" 761), (C 762), (I 241), (I 2), (I 0), (I 0), (I 3), (R 330), (.bool true), (I 181), (R 331), .none, (R 332), (R 333), (R 334), (I 766), (I 241), (C 767)]
abbrev o389 := fn (ff (at_ 51) "line_verdict" 3 .none (U 254) (R 335))
abbrev o390 := tu #[]
abbrev o391 := fi #[]
abbrev o392 := tu #[(.str "text" 772), (.str "data" 773), (.str "how" 774), (.str "found" 775), (.str "view" 776), (.str "at" 777)]
abbrev o393 := tu #[]
abbrev o394 := fu (fc (at_ 52) "line_verdicts")
abbrev o395 := cd #[(.str "line_verdicts" 769), (.str "line_verdicts" 770), (C 771), (I 247), (I 3), (I 0), (I 0), (I 3), (R 337), (.bool true), (I 181), (R 338), .none, (R 339), (R 340), (R 341), (I 778), (I 247), (C 779)]
abbrev o396 := fn (ff (at_ 52) "line_verdicts" 3 .none (U 254) (R 342))
abbrev o397 := di (fun P => #[e15 P, e0 P, e1 P, e2 P, e3 P, e4 P, e5 P, e6 P, e7 P, e8 P, e9 P, e10 P, e16 P, e17 P, e18 P, e19 P, e20 P, e21 P, e22 P, e23 P, e24 P, e25 P, e26 P, e30 P, e31 P, e32 P, e33 P, e34 P, e35 P, e36 P, e37 P, e38 P, e39 P, e40 P, e41 P, e42 P, e43 P, e44 P, e45 P, e50 P, e51 P, e56 P, e57 P, e66 P, e67 P, e68 P, e69 P, e70 P, e71 P, e72 P, e73 P, e74 P, e75 P, e76 P, e77 P, e78 P, e79 P, e80 P, e81 P, e82 P, e83 P, e84 P, e85 P]) 63
abbrev o398 := fi #[(I 1), (I 0), (R 20), (I 6), (I 0), (R 27), (I 10), (I 0), (R 48), (I 12), (I 0), (R 60), (I 45), (I 0), (R 110), (I 55), (I 0), (R 132), (I 62), (I 0), (R 139), (I 73), (I 0), (R 146), (I 80), (I 0), (R 167), (I 91), (I 0), (R 174), (I 120), (I 0), (R 223), (I 129), (I 0), (R 230), (I 135), (I 0), (R 237), (I 142), (I 0), (R 244), (I 149), (I 0), (R 251), (I 156), (I 0), (R 258), (I 163), (I 0), (R 265), (I 177), (I 0), (R 272), (I 186), (I 0), (R 279), (I 188), (I 0), (R 286), (I 199), (I 0), (R 293), (I 203), (I 0), (R 300), (I 210), (I 0), (R 307), (I 214), (I 0), (R 314), (I 221), (I 0), (R 321), (I 230), (I 0), (R 328), (I 241), (I 0), (R 335), (I 247), (I 0), (R 342), (I 255), (I 0), (R 349), (I 267), (I 0), (R 375), (I 277), (I 0), (R 382)]
abbrev o399 := tu #[]
abbrev o400 := ob (.type "builtin_function_or_method") (.fields #[(.builtin "type.__prepare__"), (.type "type")])
abbrev o401 := di (fun P => #[e86 P, (E P "__qualname__" 790 (.str "LineMeasure" 789)), e87 P, e88 P, e89 P, e90 P]) 6
abbrev o402 := tu #[]
abbrev o403 := fi #[(I 257), (I 4), (R 356), (I 264), (I 4), (R 363)]
abbrev o404 := cd #[(.str "LineMeasure" 783), (.str "LineMeasure" 784), (C 785), (I 255), (I 0), (I 0), (I 0), (I 0), (R 347), (.bool false), (I 181), (R 348), .none, .none, .none, .none, (I 786), (I 255), (C 787)]
noncomputable abbrev o405 (P : Params) : Obj := ⟨(.type "frame"), none, .plain, #[(some (R 349)), (some (R 3)), (some (R 346)), none, (some (U 254)), none, (some (R 0))]⟩
abbrev o406 := tu #[]
abbrev o407 := fi #[]
abbrev o408 := tu #[(.str "self" 796), (.str "widths" 797), (.str "hangs" 798), (.str "at" 799), (.str "width" 800)]
abbrev o409 := tu #[]
abbrev o410 := fu (fc (in_ 53 0) "LineMeasure.__init__")
abbrev o411 := cd #[(.str "__init__" 793), (.str "LineMeasure.__init__" 794), (C 795), (I 257), (I 3), (I 0), (I 0), (I 3), (R 351), (.bool true), (I 181), (R 352), .none, (R 353), (R 354), (R 355), (I 801), (I 257), (C 802)]
abbrev o412 := fn (ff (in_ 53 0) "LineMeasure.__init__" 3 .none (U 254) (R 356))
abbrev o413 := tu #[]
abbrev o414 := fi #[]
abbrev o415 := tu #[(.str "self" 807), (.str "start" 808), (.str "end" 809), (.str "last" 810)]
abbrev o416 := tu #[]
abbrev o417 := fu (fc (in_ 53 1) "LineMeasure.width")
abbrev o418 := cd #[(.str "width" 804), (.str "LineMeasure.width" 805), (C 806), (I 264), (I 3), (I 0), (I 0), (I 3), (R 358), (.bool true), (I 181), (R 359), .none, (R 360), (R 361), (R 362), (I 811), (I 264), (C 812)]
abbrev o419 := fn (ff (in_ 53 1) "LineMeasure.width" 3 .none (U 254) (R 363))
abbrev o420 := tu #[(.str "ends" 814), (.str "sums" 815)]
abbrev o421 := di (fun P => #[e86 P, e87 P, e88 P, e89 P, e90 P, (E P "__dict__" 818 (R 368)), (E P "__weakref__" 820 (R 369)), (E P "__doc__" 821 .none)]) 4
noncomputable abbrev o422 (P : Params) : Obj := ⟨(.type "type"), none, (.cls ⟨"LineMeasure", [(.type "object")], [(R 367), (.type "object")], 366, "LineMeasure", true, [], [], false, none, false⟩), #[none, none, (some (.str "LineMeasure" 781)), (some (.str "LineMeasure" 789)), (some (.builtin "object.__new__")), (some (.bool true))]⟩
abbrev o423 := ob (.type "getset_descriptor") (.fields #[(.str "__dict__" 817), (R 367), (.builtin "function.__dict__"), (.builtin "function.__dict__#set")])
abbrev o424 := ob (.type "getset_descriptor") (.fields #[(.str "__weakref__" 819), (R 367), (.builtin "ExceptionGroup.__weakref__"), .none])
abbrev o425 := ob (.type "super") (.fields #[(R 367), (R 367), (R 367)])
abbrev o426 := ob (.type "builtin_function_or_method") (.fields #[(.builtin "object.__init_subclass__"), (R 367)])
abbrev o427 := tu #[]
abbrev o428 := fi #[]
abbrev o429 := fu (fc (at_ 54) "line_even")
abbrev o430 := cd #[(.str "line_even" 824), (.str "line_even" 825), (C 826), (I 267), (I 3), (I 0), (I 0), (I 3), (R 372), (.bool true), (I 181), (R 373), .none, .none, .none, (R 374), (I 827), (I 267), (C 828)]
abbrev o431 := fn (ff (at_ 54) "line_even" 3 .none (U 254) (R 375))
abbrev o432 := tu #[]
abbrev o433 := fi #[]
abbrev o434 := tu #[(.str "part" 833), (.str "measure" 834), (.str "most" 835), (.str "costs" 836), (.str "origins" 837), (.str "k" 838), (.str "best" 839), (.str "origin" 840), (.str "j" 841), (.str "rest" 842), (.str "cost" 843), (.str "found" 844)]
abbrev o435 := tu #[]
abbrev o436 := fu (fc (at_ 55) "line_even_part")
abbrev o437 := cd #[(.str "line_even_part" 830), (.str "line_even_part" 831), (C 832), (I 277), (I 3), (I 0), (I 0), (I 3), (R 377), (.bool true), (I 181), (R 378), .none, (R 379), (R 380), (R 381), (I 845), (I 277), (C 846)]
abbrev o438 := fn (ff (at_ 55) "line_even_part" 3 .none (U 254) (R 382))
abbrev o439 := di (fun P => #[(E P "__name__" 165 (.str "unicore.ranges" 918)), e0 P, e1 P, e2 P, e3 P, e4 P, e5 P, e6 P, e7 P, e8 P, e9 P, e10 P, e16 P, e17 P, e18 P, e19 P, e20 P, e21 P, e22 P, e23 P, e24 P, e25 P, e26 P, e30 P, e31 P, e32 P, e33 P, e34 P, e35 P, e36 P, e37 P, e38 P, e39 P, e40 P, e41 P, e42 P, e43 P, e44 P, e45 P, e50 P, e51 P, e56 P, e57 P, e66 P, e67 P, e68 P, e69 P, e70 P, e71 P, e72 P, e73 P, e74 P, e75 P, e76 P, e77 P, e78 P, e79 P, e80 P, e81 P, e82 P, e83 P, e84 P, e85 P, e91 P]) 64
abbrev o440 := fi #[(I 1), (I 0), (R 20), (I 6), (I 0), (R 27), (I 10), (I 0), (R 48), (I 12), (I 0), (R 60), (I 45), (I 0), (R 110), (I 55), (I 0), (R 132), (I 62), (I 0), (R 139), (I 73), (I 0), (R 146), (I 80), (I 0), (R 167), (I 91), (I 0), (R 174), (I 120), (I 0), (R 223), (I 129), (I 0), (R 230), (I 135), (I 0), (R 237), (I 142), (I 0), (R 244), (I 149), (I 0), (R 251), (I 156), (I 0), (R 258), (I 163), (I 0), (R 265), (I 177), (I 0), (R 272), (I 186), (I 0), (R 279), (I 188), (I 0), (R 286), (I 199), (I 0), (R 293), (I 203), (I 0), (R 300), (I 210), (I 0), (R 307), (I 214), (I 0), (R 314), (I 221), (I 0), (R 321), (I 230), (I 0), (R 328), (I 241), (I 0), (R 335), (I 247), (I 0), (R 342), (I 255), (I 0), (R 349), (I 267), (I 0), (R 375), (I 277), (I 0), (R 382), (I 295), (I 0), (R 389)]
abbrev o441 := tu #[]
abbrev o442 := ob (.type "builtin_function_or_method") (.fields #[(.builtin "type.__prepare__"), (.type "type")])
abbrev o443 := di (fun P => #[e92 P, (E P "__qualname__" 857 (.str "LineBreaks" 856)), e93 P, e94 P, e95 P, e96 P, e97 P, e98 P, e99 P, e100 P]) 10
abbrev o444 := tu #[]
abbrev o445 := fi #[(I 297), (I 4), (R 397), (I 301), (I 4), (R 402), (I 304), (I 4), (R 407), (I 307), (I 4), (R 412), (I 311), (I 4), (R 421), (I 314), (I 4), (R 428)]
abbrev o446 := cd #[(.str "LineBreaks" 850), (.str "LineBreaks" 851), (C 852), (I 295), (I 0), (I 0), (I 0), (I 0), (R 387), (.bool false), (I 181), (R 388), .none, .none, .none, .none, (I 853), (I 295), (C 854)]
noncomputable abbrev o447 (P : Params) : Obj := ⟨(.type "frame"), none, .plain, #[(some (R 389)), (some (R 3)), (some (R 386)), none, (some (U 254)), none, (some (R 0))]⟩
abbrev o448 := tu #[.none]
abbrev o449 := tu #[]
abbrev o450 := fi #[]
abbrev o451 := tu #[(.str "self" 863), (.str "data" 864), (.str "how" 865)]
abbrev o452 := tu #[]
abbrev o453 := fu (fc (in_ 56 0) "LineBreaks.__init__")
abbrev o454 := cd #[(.str "__init__" 860), (.str "LineBreaks.__init__" 861), (C 862), (I 297), (I 3), (I 0), (I 0), (I 3), (R 392), (.bool true), (I 181), (R 393), .none, (R 394), (R 395), (R 396), (I 866), (I 297), (C 867)]
abbrev o455 := fn (ff (in_ 56 0) "LineBreaks.__init__" 3 (R 391) (U 254) (R 397))
abbrev o456 := tu #[]
abbrev o457 := fi #[]
abbrev o458 := fu (fc (in_ 56 1) "LineBreaks.opportunities")
abbrev o459 := cd #[(.str "opportunities" 869), (.str "LineBreaks.opportunities" 870), (C 871), (I 301), (I 2), (I 0), (I 0), (I 3), (R 399), (.bool true), (I 181), (R 400), .none, .none, .none, (R 401), (I 872), (I 301), (C 873)]
abbrev o460 := fn (ff (in_ 56 1) "LineBreaks.opportunities" 3 .none (U 254) (R 402))
abbrev o461 := tu #[]
abbrev o462 := fi #[]
abbrev o463 := fu (fc (in_ 56 2) "LineBreaks.reasons")
abbrev o464 := cd #[(.str "reasons" 875), (.str "LineBreaks.reasons" 876), (C 877), (I 304), (I 2), (I 0), (I 0), (I 3), (R 404), (.bool true), (I 181), (R 405), .none, .none, .none, (R 406), (I 878), (I 304), (C 879)]
abbrev o465 := fn (ff (in_ 56 2) "LineBreaks.reasons" 3 .none (U 254) (R 407))
abbrev o466 := tu #[]
abbrev o467 := fi #[]
abbrev o468 := fu (fc (in_ 56 3) "LineBreaks.measure")
abbrev o469 := cd #[(.str "measure" 881), (.str "LineBreaks.measure" 882), (C 883), (I 307), (I 3), (I 0), (I 0), (I 3), (R 409), (.bool true), (I 181), (R 410), .none, .none, .none, (R 411), (I 884), (I 307), (C 885)]
abbrev o470 := fn (ff (in_ 56 3) "LineBreaks.measure" 3 .none (U 254) (R 412))
abbrev o471 := tu #[]
abbrev o472 := tu #[(R 414)]
abbrev o473 := tu #[]
abbrev o474 := fi #[]
abbrev o475 := tu #[(.str "self" 890), (.str "text" 891), (.str "widths" 892), (.str "most" 893), (.str "inner" 894)]
abbrev o476 := tu #[]
abbrev o477 := fu (fc (in_ 56 4) "LineBreaks.fit_lines")
abbrev o478 := cd #[(.str "fit_lines" 887), (.str "LineBreaks.fit_lines" 888), (C 889), (I 311), (I 5), (I 0), (I 0), (I 3), (R 416), (.bool true), (I 181), (R 417), .none, (R 418), (R 419), (R 420), (I 895), (I 311), (C 896)]
abbrev o479 := fn (ff (in_ 56 4) "LineBreaks.fit_lines" 3 (R 415) (U 254) (R 421))
abbrev o480 := tu #[]
abbrev o481 := fi #[]
abbrev o482 := tu #[(.str "self" 901), (.str "text" 902), (.str "widths" 903), (.str "most" 904)]
abbrev o483 := tu #[]
abbrev o484 := fu (fc (in_ 56 5) "LineBreaks.even_lines")
abbrev o485 := cd #[(.str "even_lines" 898), (.str "LineBreaks.even_lines" 899), (C 900), (I 314), (I 4), (I 0), (I 0), (I 3), (R 423), (.bool true), (I 181), (R 424), .none, (R 425), (R 426), (R 427), (I 905), (I 314), (C 906)]
abbrev o486 := fn (ff (in_ 56 5) "LineBreaks.even_lines" 3 .none (U 254) (R 428))
abbrev o487 := tu #[(.str "data" 908), (.str "how" 909)]
abbrev o488 := di (fun P => #[e92 P, e93 P, e94 P, e95 P, e96 P, e97 P, e98 P, e99 P, e100 P, (E P "__dict__" 912 (R 433)), (E P "__weakref__" 914 (R 434)), (E P "__doc__" 915 .none)]) 4
noncomputable abbrev o489 (P : Params) : Obj := ⟨(.type "type"), none, (.cls ⟨"LineBreaks", [(.type "object")], [(R 432), (.type "object")], 431, "LineBreaks", true, [], [], false, none, false⟩), #[none, none, (some (.str "LineBreaks" 848)), (some (.str "LineBreaks" 856)), (some (.builtin "object.__new__")), (some (.bool true))]⟩
abbrev o490 := ob (.type "getset_descriptor") (.fields #[(.str "__dict__" 911), (R 432), (.builtin "function.__dict__"), (.builtin "function.__dict__#set")])
abbrev o491 := ob (.type "getset_descriptor") (.fields #[(.str "__weakref__" 913), (R 432), (.builtin "ExceptionGroup.__weakref__"), .none])
abbrev o492 := ob (.type "super") (.fields #[(R 432), (R 432), (R 432)])
abbrev o493 := ob (.type "builtin_function_or_method") (.fields #[(.builtin "object.__init_subclass__"), (R 432)])
abbrev o494 := di (fun P => #[(E P "__name__" 165 (.str "unicore.data" 997)), e0 P, e1 P, e2 P, e3 P, e4 P, e5 P, e6 P, e7 P, e8 P, e9 P, e10 P, e16 P, e17 P, e18 P, e19 P, e20 P, e21 P, e22 P, e23 P, e24 P, e25 P, e26 P, e30 P, e31 P, e32 P, e33 P, e34 P, e35 P, e36 P, e37 P, e38 P, e39 P, e40 P, e41 P, e42 P, e43 P, e44 P, e45 P, e50 P, e51 P, e56 P, e57 P, e66 P, e67 P, e68 P, e69 P, e70 P, e71 P, e72 P, e73 P, e74 P, e75 P, e76 P, e77 P, e78 P, e79 P, e80 P, e81 P, e82 P, e83 P, e84 P, e85 P, e91 P, e101 P, e102 P]) 66
abbrev o495 := fi #[(I 1), (I 0), (R 20), (I 6), (I 0), (R 27), (I 10), (I 0), (R 48), (I 12), (I 0), (R 60), (I 45), (I 0), (R 110), (I 55), (I 0), (R 132), (I 62), (I 0), (R 139), (I 73), (I 0), (R 146), (I 80), (I 0), (R 167), (I 91), (I 0), (R 174), (I 120), (I 0), (R 223), (I 129), (I 0), (R 230), (I 135), (I 0), (R 237), (I 142), (I 0), (R 244), (I 149), (I 0), (R 251), (I 156), (I 0), (R 258), (I 163), (I 0), (R 265), (I 177), (I 0), (R 272), (I 186), (I 0), (R 279), (I 188), (I 0), (R 286), (I 199), (I 0), (R 293), (I 203), (I 0), (R 300), (I 210), (I 0), (R 307), (I 214), (I 0), (R 314), (I 221), (I 0), (R 321), (I 230), (I 0), (R 328), (I 241), (I 0), (R 335), (I 247), (I 0), (R 342), (I 255), (I 0), (R 349), (I 267), (I 0), (R 375), (I 277), (I 0), (R 382), (I 295), (I 0), (R 389), (I 317), (I 0), (R 442), (I 319), (I 0), (R 449)]
abbrev o496 := tu #[]
abbrev o497 := fi #[]
abbrev o498 := tu #[(.str "one" 923), (.str "other" 924)]
abbrev o499 := tu #[]
abbrev o500 := fu (fc (at_ 58) "range_are_like")
abbrev o501 := cd #[(.str "range_are_like" 920), (.str "range_are_like" 921), (C 922), (I 317), (I 2), (I 0), (I 0), (I 3), (R 437), (.bool true), (I 181), (R 438), .none, (R 439), (R 440), (R 441), (I 925), (I 317), (C 926)]
abbrev o502 := fn (ff (at_ 58) "range_are_like" 3 .none (.str "unicore.ranges" 918) (R 442))
abbrev o503 := tu #[]
abbrev o504 := ob (.type "builtin_function_or_method") (.fields #[(.builtin "type.__prepare__"), (.type "type")])
abbrev o505 := di (fun P => #[e103 P, (E P "__qualname__" 937 (.str "RangeMap" 936)), e104 P, e105 P, e106 P, e107 P, e108 P, e109 P, e110 P]) 9
abbrev o506 := tu #[]
abbrev o507 := fi #[(I 321), (I 4), (R 456), (I 326), (I 4), (R 463), (I 329), (I 4), (R 470), (I 344), (I 4), (R 477), (I 347), (I 4), (R 484)]
abbrev o508 := cd #[(.str "RangeMap" 930), (.str "RangeMap" 931), (C 932), (I 319), (I 0), (I 0), (I 0), (I 0), (R 447), (.bool false), (I 181), (R 448), .none, .none, .none, .none, (I 933), (I 319), (C 934)]
noncomputable abbrev o509 (P : Params) : Obj := ⟨(.type "frame"), none, .plain, #[(some (R 449)), (some (R 3)), (some (R 446)), none, (some (.str "unicore.ranges" 918)), none, (some (R 0))]⟩
abbrev o510 := tu #[]
abbrev o511 := fi #[]
abbrev o512 := tu #[(.str "self" 943), (.str "default" 944)]
abbrev o513 := tu #[]
abbrev o514 := fu (fc (in_ 59 0) "RangeMap.__init__")
abbrev o515 := cd #[(.str "__init__" 940), (.str "RangeMap.__init__" 941), (C 942), (I 321), (I 2), (I 0), (I 0), (I 3), (R 451), (.bool true), (I 181), (R 452), .none, (R 453), (R 454), (R 455), (I 945), (I 321), (C 946)]
abbrev o516 := fn (ff (in_ 59 0) "RangeMap.__init__" 3 .none (.str "unicore.ranges" 918) (R 456))
abbrev o517 := tu #[]
abbrev o518 := fi #[]
abbrev o519 := tu #[(.str "self" 951), (.str "code" 952)]
abbrev o520 := tu #[]
abbrev o521 := fu (fc (in_ 59 1) "RangeMap.get")
abbrev o522 := cd #[(.str "get" 948), (.str "RangeMap.get" 949), (C 950), (I 326), (I 2), (I 0), (I 0), (I 3), (R 458), (.bool true), (I 181), (R 459), .none, (R 460), (R 461), (R 462), (I 953), (I 326), (C 954)]
abbrev o523 := fn (ff (in_ 59 1) "RangeMap.get" 3 .none (.str "unicore.ranges" 918) (R 463))
abbrev o524 := tu #[]
abbrev o525 := fi #[]
abbrev o526 := tu #[(.str "self" 959), (.str "first" 960), (.str "last" 961), (.str "value" 962), (.str "low" 963), (.str "high" 964), (.str "behind" 965), (.str "starts" 966), (.str "values" 967)]
abbrev o527 := tu #[]
abbrev o528 := fu (fc (in_ 59 2) "RangeMap.put")
abbrev o529 := cd #[(.str "put" 956), (.str "RangeMap.put" 957), (C 958), (I 329), (I 4), (I 0), (I 0), (I 3), (R 465), (.bool true), (I 181), (R 466), .none, (R 467), (R 468), (R 469), (I 968), (I 329), (C 969)]
abbrev o530 := fn (ff (in_ 59 2) "RangeMap.put" 3 .none (.str "unicore.ranges" 918) (R 470))
abbrev o531 := tu #[]
abbrev o532 := fi #[]
abbrev o533 := tu #[(.str "self" 974)]
abbrev o534 := tu #[]
abbrev o535 := fu (fc (in_ 59 3) "RangeMap.ranges")
abbrev o536 := cd #[(.str "ranges" 971), (.str "RangeMap.ranges" 972), (C 973), (I 344), (I 1), (I 0), (I 0), (I 3), (R 472), (.bool true), (I 181), (R 473), .none, (R 474), (R 475), (R 476), (I 975), (I 344), (C 976)]
abbrev o537 := fn (ff (in_ 59 3) "RangeMap.ranges" 3 .none (.str "unicore.ranges" 918) (R 477))
abbrev o538 := tu #[]
abbrev o539 := fi #[]
abbrev o540 := tu #[(.str "self" 981), (.str "value" 982)]
abbrev o541 := tu #[]
abbrev o542 := fu (fc (in_ 59 4) "RangeMap.set_of")
abbrev o543 := cd #[(.str "set_of" 978), (.str "RangeMap.set_of" 979), (C 980), (I 347), (I 2), (I 0), (I 0), (I 3), (R 479), (.bool true), (I 181), (R 480), .none, (R 481), (R 482), (R 483), (I 983), (I 347), (C 984)]
abbrev o544 := fn (ff (in_ 59 4) "RangeMap.set_of" 3 .none (.str "unicore.ranges" 918) (R 484))
abbrev o545 := tu #[(.str "default" 986), (.str "starts" 987), (.str "values" 988)]
abbrev o546 := di (fun P => #[e103 P, e104 P, e105 P, e106 P, e107 P, e108 P, e109 P, e110 P, (E P "__dict__" 991 (R 489)), (E P "__weakref__" 993 (R 490)), (E P "__doc__" 994 .none)]) 4
noncomputable abbrev o547 (P : Params) : Obj := ⟨(.type "type"), none, (.cls ⟨"RangeMap", [(.type "object")], [(R 488), (.type "object")], 487, "RangeMap", true, [], [], false, none, false⟩), #[none, none, (some (.str "RangeMap" 928)), (some (.str "RangeMap" 936)), (some (.builtin "object.__new__")), (some (.bool true))]⟩
abbrev o548 := ob (.type "getset_descriptor") (.fields #[(.str "__dict__" 990), (R 488), (.builtin "function.__dict__"), (.builtin "function.__dict__#set")])
abbrev o549 := ob (.type "getset_descriptor") (.fields #[(.str "__weakref__" 992), (R 488), (.builtin "ExceptionGroup.__weakref__"), .none])
abbrev o550 := ob (.type "super") (.fields #[(R 488), (R 488), (R 488)])
abbrev o551 := ob (.type "builtin_function_or_method") (.fields #[(.builtin "object.__init_subclass__"), (R 488)])
abbrev o552 := di (fun P => #[e111 P, e0 P, e1 P, e2 P, e3 P, e4 P, e5 P, e6 P, e7 P, e8 P, e9 P, e10 P, e16 P, e17 P, e18 P, e19 P, e20 P, e21 P, e22 P, e23 P, e24 P, e25 P, e26 P, e30 P, e31 P, e32 P, e33 P, e34 P, e35 P, e36 P, e37 P, e38 P, e39 P, e40 P, e41 P, e42 P, e43 P, e44 P, e45 P, e50 P, e51 P, e56 P, e57 P, e66 P, e67 P, e68 P, e69 P, e70 P, e71 P, e72 P, e73 P, e74 P, e75 P, e76 P, e77 P, e78 P, e79 P, e80 P, e81 P, e82 P, e83 P, e84 P, e85 P, e91 P, e101 P, e102 P, e112 P, e113 P, e114 P]) 69
abbrev o553 := fi #[(I 1), (I 0), (R 20), (I 6), (I 0), (R 27), (I 10), (I 0), (R 48), (I 12), (I 0), (R 60), (I 45), (I 0), (R 110), (I 55), (I 0), (R 132), (I 62), (I 0), (R 139), (I 73), (I 0), (R 146), (I 80), (I 0), (R 167), (I 91), (I 0), (R 174), (I 120), (I 0), (R 223), (I 129), (I 0), (R 230), (I 135), (I 0), (R 237), (I 142), (I 0), (R 244), (I 149), (I 0), (R 251), (I 156), (I 0), (R 258), (I 163), (I 0), (R 265), (I 177), (I 0), (R 272), (I 186), (I 0), (R 279), (I 188), (I 0), (R 286), (I 199), (I 0), (R 293), (I 203), (I 0), (R 300), (I 210), (I 0), (R 307), (I 214), (I 0), (R 314), (I 221), (I 0), (R 321), (I 230), (I 0), (R 328), (I 241), (I 0), (R 335), (I 247), (I 0), (R 342), (I 255), (I 0), (R 349), (I 267), (I 0), (R 375), (I 277), (I 0), (R 382), (I 295), (I 0), (R 389), (I 317), (I 0), (R 442), (I 319), (I 0), (R 449), (I 350), (I 0), (R 498), (I 362), (I 0), (R 505)]
abbrev o554 := tu #[]
abbrev o555 := fi #[]
abbrev o556 := tu #[(.str "found" 1002), (.str "name" 1003)]
abbrev o557 := tu #[]
abbrev o558 := fu (fc (at_ 61) "data_defaults")
abbrev o559 := cd #[(.str "data_defaults" 999), (.str "data_defaults" 1000), (C 1001), (I 350), (I 0), (I 0), (I 0), (I 3), (R 493), (.bool true), (I 181), (R 494), .none, (R 495), (R 496), (R 497), (I 1004), (I 350), (C 1005)]
abbrev o560 := fn (ff (at_ 61) "data_defaults" 3 .none (.str "unicore.data" 997) (R 498))
abbrev o561 := tu #[]
abbrev o562 := ob (.type "builtin_function_or_method") (.fields #[(.builtin "type.__prepare__"), (.type "type")])
abbrev o563 := di (fun P => #[e115 P, (E P "__qualname__" 1016 (.str "Data" 1015)), e116 P, e117 P, e118 P, e119 P, e120 P, e121 P]) 8
abbrev o564 := tu #[]
abbrev o565 := fi #[(I 364), (I 4), (R 512), (I 370), (I 4), (R 519), (I 373), (I 4), (R 526), (I 378), (I 4), (R 533)]
abbrev o566 := cd #[(.str "Data" 1009), (.str "Data" 1010), (C 1011), (I 362), (I 0), (I 0), (I 0), (I 0), (R 503), (.bool false), (I 181), (R 504), .none, .none, .none, .none, (I 1012), (I 362), (C 1013)]
noncomputable abbrev o567 (P : Params) : Obj := ⟨(.type "frame"), none, .plain, #[(some (R 505)), (some (R 3)), (some (R 502)), none, (some (.str "unicore.data" 997)), none, (some (R 0))]⟩
abbrev o568 := tu #[]
abbrev o569 := fi #[]
abbrev o570 := tu #[(.str "self" 1022)]
abbrev o571 := tu #[]
abbrev o572 := fu (fc (in_ 62 0) "Data.__init__")
abbrev o573 := cd #[(.str "__init__" 1019), (.str "Data.__init__" 1020), (C 1021), (I 364), (I 1), (I 0), (I 0), (I 3), (R 507), (.bool true), (I 181), (R 508), .none, (R 509), (R 510), (R 511), (I 1023), (I 364), (C 1024)]
abbrev o574 := fn (ff (in_ 62 0) "Data.__init__" 3 .none (.str "unicore.data" 997) (R 512))
abbrev o575 := tu #[]
abbrev o576 := fi #[]
abbrev o577 := tu #[(.str "self" 1029), (.str "name" 1030), (.str "first" 1031), (.str "last" 1032), (.str "value" 1033)]
abbrev o578 := tu #[]
abbrev o579 := fu (fc (in_ 62 1) "Data.put")
abbrev o580 := cd #[(.str "put" 1026), (.str "Data.put" 1027), (C 1028), (I 370), (I 5), (I 0), (I 0), (I 3), (R 514), (.bool true), (I 181), (R 515), .none, (R 516), (R 517), (R 518), (I 1034), (I 370), (C 1035)]
abbrev o581 := fn (ff (in_ 62 1) "Data.put" 3 .none (.str "unicore.data" 997) (R 519))
abbrev o582 := tu #[]
abbrev o583 := fi #[]
abbrev o584 := tu #[(.str "self" 1040), (.str "name" 1041), (.str "code" 1042)]
abbrev o585 := tu #[]
abbrev o586 := fu (fc (in_ 62 2) "Data.get")
abbrev o587 := cd #[(.str "get" 1037), (.str "Data.get" 1038), (C 1039), (I 373), (I 3), (I 0), (I 0), (I 3), (R 521), (.bool true), (I 181), (R 522), .none, (R 523), (R 524), (R 525), (I 1043), (I 373), (C 1044)]
abbrev o588 := fn (ff (in_ 62 2) "Data.get" 3 .none (.str "unicore.data" 997) (R 526))
abbrev o589 := tu #[]
abbrev o590 := fi #[]
abbrev o591 := tu #[(.str "self" 1049), (.str "name" 1050)]
abbrev o592 := tu #[]
abbrev o593 := fu (fc (in_ 62 3) "Data.map_of")
abbrev o594 := cd #[(.str "map_of" 1046), (.str "Data.map_of" 1047), (C 1048), (I 378), (I 2), (I 0), (I 0), (I 3), (R 528), (.bool true), (I 181), (R 529), .none, (R 530), (R 531), (R 532), (I 1051), (I 378), (C 1052)]
abbrev o595 := fn (ff (in_ 62 3) "Data.map_of" 3 .none (.str "unicore.data" 997) (R 533))
abbrev o596 := tu #[(.str "defaults" 1054), (.str "maps" 1055), (.str "properties" 1056), (.str "words" 1057)]
abbrev o597 := di (fun P => #[e115 P, e116 P, e117 P, e118 P, e119 P, e120 P, e121 P, (E P "__dict__" 1060 (R 538)), (E P "__weakref__" 1062 (R 539)), (E P "__doc__" 1063 .none)]) 4
noncomputable abbrev o598 (P : Params) : Obj := ⟨(.type "type"), none, (.cls ⟨"Data", [(.type "object")], [(R 537), (.type "object")], 536, "Data", true, [], [], false, none, false⟩), #[none, none, (some (.str "Data" 1007)), (some (.str "Data" 1015)), (some (.builtin "object.__new__")), (some (.bool true))]⟩
abbrev o599 := ob (.type "getset_descriptor") (.fields #[(.str "__dict__" 1059), (R 537), (.builtin "function.__dict__"), (.builtin "function.__dict__#set")])
abbrev o600 := ob (.type "getset_descriptor") (.fields #[(.str "__weakref__" 1061), (R 537), (.builtin "ExceptionGroup.__weakref__"), .none])
abbrev o601 := ob (.type "super") (.fields #[(R 537), (R 537), (R 537)])
abbrev o602 := ob (.type "builtin_function_or_method") (.fields #[(.builtin "object.__init_subclass__"), (R 537)])
abbrev o603 := ob (.type "list") (.seq #[(.int 97 1068), (.int 98 1069), (.int 19968 1070), (.int 32 1071), (.int 32 1072), (.int 10 1073), (.int 160 1074), (.int 19968 1075)] 0)
abbrev o604 := di (fun P => #[e111 P, e0 P, e1 P, e2 P, e3 P, e4 P, e5 P, e6 P, e7 P, e8 P, e9 P, e10 P, e16 P, e17 P, e18 P, e19 P, e20 P, e21 P, e22 P, e23 P, e24 P, e25 P, e26 P, e30 P, e31 P, e32 P, e33 P, e34 P, e35 P, e36 P, e37 P, e38 P, e39 P, e40 P, e41 P, e42 P, e43 P, e44 P, e45 P, e50 P, e51 P, e56 P, e57 P, e66 P, e67 P, e68 P, e69 P, e70 P, e71 P, e72 P, e73 P, e74 P, e75 P, e76 P, e77 P, e78 P, e79 P, e80 P, e81 P, e82 P, e83 P, e84 P, e85 P, e91 P, e101 P, e102 P, e112 P, e113 P, e114 P, (E P "_law_classes" 1082 (R 549)), (E P "_law_deck" 1088 (R 554)), (E P "_law_draw" 1098 (R 561)), (E P "_law_data" 1106 (R 568)), (E P "_law_place" 1112 (R 573)), (E P "_law_width" 1122 (R 580)), (E P "_law_worth" 1138 (R 587)), (E P "_law_even" 1144 (R 592)), (E P "law" 1150 (R 597))]) 78
abbrev o605 := fi #[(I 1), (I 0), (R 20), (I 6), (I 0), (R 27), (I 10), (I 0), (R 48), (I 12), (I 0), (R 60), (I 45), (I 0), (R 110), (I 55), (I 0), (R 132), (I 62), (I 0), (R 139), (I 73), (I 0), (R 146), (I 80), (I 0), (R 167), (I 91), (I 0), (R 174), (I 120), (I 0), (R 223), (I 129), (I 0), (R 230), (I 135), (I 0), (R 237), (I 142), (I 0), (R 244), (I 149), (I 0), (R 251), (I 156), (I 0), (R 258), (I 163), (I 0), (R 265), (I 177), (I 0), (R 272), (I 186), (I 0), (R 279), (I 188), (I 0), (R 286), (I 199), (I 0), (R 293), (I 203), (I 0), (R 300), (I 210), (I 0), (R 307), (I 214), (I 0), (R 314), (I 221), (I 0), (R 321), (I 230), (I 0), (R 328), (I 241), (I 0), (R 335), (I 247), (I 0), (R 342), (I 255), (I 0), (R 349), (I 267), (I 0), (R 375), (I 277), (I 0), (R 382), (I 295), (I 0), (R 389), (I 317), (I 0), (R 442), (I 319), (I 0), (R 449), (I 350), (I 0), (R 498), (I 362), (I 0), (R 505), (I 384), (I 0), (R 548), (I 386), (I 0), (R 553), (I 388), (I 0), (R 560), (I 396), (I 0), (R 567), (I 401), (I 0), (R 572), (I 412), (I 0), (R 579), (I 416), (I 0), (R 586), (I 425), (I 0), (R 591), (I 437), (I 0), (R 596)]
abbrev o606 := tu #[]
abbrev o607 := fi #[]
abbrev o608 := tu #[]
abbrev o609 := tu #[]
abbrev o610 := fu (fc (at_ 65) "_law_classes")
abbrev o611 := cd #[(.str "_law_classes" 1077), (.str "_law_classes" 1078), (C 1079), (I 384), (I 0), (I 0), (I 0), (I 3), (R 543), (.bool true), (I 181), (R 544), .none, (R 545), (R 546), (R 547), (I 1080), (I 384), (C 1081)]
abbrev o612 := fn (ff (at_ 65) "_law_classes" 3 .none (.str "law_on0381_03" 1066) (R 548))
abbrev o613 := tu #[]
abbrev o614 := fi #[]
abbrev o615 := fu (fc (at_ 66) "_law_deck")
abbrev o616 := cd #[(.str "_law_deck" 1083), (.str "_law_deck" 1084), (C 1085), (I 386), (I 1), (I 0), (I 0), (I 3), (R 550), (.bool true), (I 181), (R 551), .none, .none, .none, (R 552), (I 1086), (I 386), (C 1087)]
abbrev o617 := fn (ff (at_ 66) "_law_deck" 3 .none (.str "law_on0381_03" 1066) (R 553))
abbrev o618 := tu #[]
abbrev o619 := fi #[]
abbrev o620 := tu #[(.str "deck" 1092), (.str "below" 1093), (.str "at" 1094), (.str "cells" 1095)]
abbrev o621 := tu #[]
abbrev o622 := fu (fc (at_ 67) "_law_draw")
abbrev o623 := cd #[(.str "_law_draw" 1089), (.str "_law_draw" 1090), (C 1091), (I 388), (I 2), (I 0), (I 0), (I 3), (R 555), (.bool true), (I 181), (R 556), .none, (R 557), (R 558), (R 559), (I 1096), (I 388), (C 1097)]
abbrev o624 := fn (ff (at_ 67) "_law_draw" 3 .none (.str "law_on0381_03" 1066) (R 560))
abbrev o625 := tu #[]
abbrev o626 := fi #[]
abbrev o627 := tu #[(.str "data" 1102), (.str "code" 1103)]
abbrev o628 := tu #[]
abbrev o629 := fu (fc (at_ 68) "_law_data")
abbrev o630 := cd #[(.str "_law_data" 1099), (.str "_law_data" 1100), (C 1101), (I 396), (I 0), (I 0), (I 0), (I 3), (R 562), (.bool true), (I 181), (R 563), .none, (R 564), (R 565), (R 566), (I 1104), (I 396), (C 1105)]
abbrev o631 := fn (ff (at_ 68) "_law_data" 3 .none (.str "law_on0381_03" 1066) (R 567))
abbrev o632 := tu #[]
abbrev o633 := fi #[]
abbrev o634 := fu (fc (at_ 69) "_law_place")
abbrev o635 := cd #[(.str "_law_place" 1107), (.str "_law_place" 1108), (C 1109), (I 401), (I 2), (I 0), (I 0), (I 3), (R 569), (.bool true), (I 181), (R 570), .none, .none, .none, (R 571), (I 1110), (I 401), (C 1111)]
abbrev o636 := fn (ff (at_ 69) "_law_place" 3 .none (.str "law_on0381_03" 1066) (R 572))
abbrev o637 := tu #[]
abbrev o638 := fi #[]
abbrev o639 := tu #[(.str "text" 1116), (.str "widths" 1117), (.str "start" 1118), (.str "end" 1119)]
abbrev o640 := tu #[]
abbrev o641 := fu (fc (at_ 70) "_law_width")
abbrev o642 := cd #[(.str "_law_width" 1113), (.str "_law_width" 1114), (C 1115), (I 412), (I 4), (I 0), (I 0), (I 3), (R 574), (.bool true), (I 181), (R 575), .none, (R 576), (R 577), (R 578), (I 1120), (I 412), (C 1121)]
abbrev o643 := fn (ff (at_ 70) "_law_width" 3 .none (.str "law_on0381_03" 1066) (R 579))
abbrev o644 := tu #[]
abbrev o645 := fi #[]
abbrev o646 := tu #[(.str "lines" 1126), (.str "known" 1127), (.str "text" 1128), (.str "widths" 1129), (.str "most" 1130), (.str "found" 1131), (.str "number" 1132), (.str "start" 1133), (.str "end" 1134), (.str "rest" 1135)]
abbrev o647 := tu #[]
abbrev o648 := fu (fc (at_ 71) "_law_worth")
abbrev o649 := cd #[(.str "_law_worth" 1123), (.str "_law_worth" 1124), (C 1125), (I 416), (I 5), (I 0), (I 0), (I 3), (R 581), (.bool true), (I 181), (R 582), .none, (R 583), (R 584), (R 585), (I 1136), (I 416), (C 1137)]
abbrev o650 := fn (ff (at_ 71) "_law_worth" 3 .none (.str "law_on0381_03" 1066) (R 586))
abbrev o651 := tu #[]
abbrev o652 := fi #[]
abbrev o653 := fu (fc (at_ 72) "_law_even")
abbrev o654 := cd #[(.str "_law_even" 1139), (.str "_law_even" 1140), (C 1141), (I 425), (I 4), (I 0), (I 0), (I 3), (R 588), (.bool true), (I 181), (R 589), .none, .none, .none, (R 590), (I 1142), (I 425), (C 1143)]
abbrev o655 := fn (ff (at_ 72) "_law_even" 3 .none (.str "law_on0381_03" 1066) (R 591))
abbrev o656 := tu #[]
abbrev o657 := fi #[]
abbrev o658 := fu (fc (at_ 73) "law")
abbrev o659 := cd #[(.str "law" 1145), (.str "law" 1146), (C 1147), (I 437), (I 1), (I 0), (I 0), (I 3), (R 593), (.bool true), (I 181), (R 594), .none, .none, .none, (R 595), (I 1148), (I 437), (C 1149)]
abbrev o660 := fn (ff (at_ 73) "law" 3 .none (.str "law_on0381_03" 1066) (R 596))
end
noncomputable abbrev N (v : Params → Obj) (l r : Params → BT) : Params → BT := fun P => .node (v P) (l P) (r P)
noncomputable abbrev Z : Params → BT := fun P => .nil
noncomputable abbrev F (v : Params → Obj) : Params → BT := fun P => .node (v P) .nil .nil
noncomputable def tree_47 : Params → BT := (N boot_o_0 (N boot_o_1 (N boot_o_3 (F boot_o_7) (F o43)) (N boot_o_5 (F boot_o_9) (F o45))) (N boot_o_2 (N boot_o_4 (F boot_o_8) (F o44)) (N boot_o_6 (F boot_o_10) (F o46))))
noncomputable def tree_79 : Params → BT := (N boot_o_0 (N boot_o_1 (N o50 (N boot_o_7 (N o52 (F o68) Z) (N o60 (F o76) Z)) (N o43 (N o56 (F o72) Z) (F o64))) (N boot_o_5 (N boot_o_9 (N o54 (F o70) Z) (N o62 (F o78) Z)) (N o45 (N o58 (F o74) Z) (F o66)))) (N o49 (N boot_o_4 (N boot_o_8 (N o53 (F o69) Z) (N o61 (F o77) Z)) (N o51 (N o57 (F o73) Z) (F o65))) (N boot_o_6 (N boot_o_10 (N o55 (F o71) Z) (N o63 (F o79) Z)) (N o46 (N o59 (F o75) Z) (F o67)))))
noncomputable def tree_110 : Params → BT := (N boot_o_0 (N boot_o_1 (N o80 (N boot_o_7 (N o52 (N o68 (F o103) Z) (F o87)) (N o60 (F o82) (F o95))) (N o43 (N o56 (N o72 (F o107) Z) (F o91)) (N o64 (F o83) (F o99)))) (N boot_o_5 (N boot_o_9 (N o54 (N o70 (F o105) Z) (F o89)) (N o62 (F o78) (F o97))) (N o45 (N o58 (N o74 (F o109) Z) (F o93)) (N o66 (F o85) (F o101))))) (N o49 (N boot_o_4 (N boot_o_8 (N o53 (N o69 (F o104) Z) (F o88)) (N o61 (F o77) (F o96))) (N o81 (N o57 (N o73 (F o108) Z) (F o92)) (N o65 (F o84) (F o100)))) (N boot_o_6 (N boot_o_10 (N o55 (N o71 (F o106) Z) (F o90)) (N o63 (F o79) (F o98))) (N o46 (N o59 (N o75 (F o110) Z) (F o94)) (N o67 (F o86) (F o102))))))
noncomputable def tree_145 : Params → BT := (N boot_o_0 (N boot_o_1 (N o111 (N boot_o_7 (N o52 (N o68 (F o103) (F o136)) (N o87 (F o120) Z)) (N o60 (N o82 (F o112) (F o144)) (N o95 (F o128) Z))) (N o43 (N o56 (N o72 (F o107) (F o140)) (N o91 (F o124) Z)) (N o64 (N o83 (F o116) Z) (N o99 (F o132) Z)))) (N boot_o_5 (N boot_o_9 (N o54 (N o70 (F o105) (F o138)) (N o89 (F o122) Z)) (N o62 (N o78 (F o114) Z) (N o97 (F o130) Z))) (N o45 (N o58 (N o74 (F o109) (F o142)) (N o93 (F o126) Z)) (N o66 (N o85 (F o118) Z) (N o101 (F o134) Z))))) (N o49 (N boot_o_4 (N boot_o_8 (N o53 (N o69 (F o104) (F o137)) (N o88 (F o121) Z)) (N o61 (N o77 (F o113) (F o145)) (N o96 (F o129) Z))) (N o81 (N o57 (N o73 (F o108) (F o141)) (N o92 (F o125) Z)) (N o65 (N o84 (F o117) Z) (N o100 (F o133) Z)))) (N boot_o_6 (N boot_o_10 (N o55 (N o71 (F o106) (F o139)) (N o90 (F o123) Z)) (N o63 (N o79 (F o115) Z) (N o98 (F o131) Z))) (N o46 (N o59 (N o75 (F o110) (F o143)) (N o94 (F o127) Z)) (N o67 (N o86 (F o119) Z) (N o102 (F o135) Z))))))
noncomputable def tree_185 : Params → BT := (N boot_o_0 (N boot_o_1 (N o148 (N boot_o_7 (N o52 (N o68 (N o103 (F o172) Z) (F o136)) (N o87 (F o120) (F o156))) (N o60 (N o82 (N o112 (F o180) Z) (F o144)) (N o95 (F o128) (F o164)))) (N o43 (N o56 (N o72 (N o107 (F o176) Z) (F o140)) (N o91 (F o124) (F o160))) (N o64 (N o83 (N o116 (F o184) Z) (F o152)) (N o99 (F o132) (F o168))))) (N boot_o_5 (N boot_o_9 (N o54 (N o70 (N o105 (F o174) Z) (F o138)) (N o89 (F o122) (F o158))) (N o62 (N o78 (N o114 (F o182) Z) (F o150)) (N o97 (F o130) (F o166)))) (N o45 (N o58 (N o74 (N o109 (F o178) Z) (F o142)) (N o93 (F o126) (F o162))) (N o66 (N o85 (F o118) (F o154)) (N o101 (F o134) (F o170)))))) (N o49 (N boot_o_4 (N boot_o_8 (N o53 (N o69 (N o104 (F o173) Z) (F o137)) (N o88 (F o121) (F o157))) (N o61 (N o77 (N o113 (F o181) Z) (F o145)) (N o96 (F o129) (F o165)))) (N o149 (N o57 (N o73 (N o108 (F o177) Z) (F o141)) (N o92 (F o125) (F o161))) (N o65 (N o84 (N o117 (F o185) Z) (F o153)) (N o100 (F o133) (F o169))))) (N boot_o_6 (N boot_o_10 (N o55 (N o71 (N o106 (F o175) Z) (F o139)) (N o90 (F o123) (F o159))) (N o63 (N o79 (N o115 (F o183) Z) (F o151)) (N o98 (F o131) (F o167)))) (N o46 (N o59 (N o75 (N o110 (F o179) Z) (F o143)) (N o94 (F o127) (F o163))) (N o67 (N o86 (F o119) (F o155)) (N o102 (F o135) (F o171)))))))
noncomputable def tree_215 : Params → BT := (N boot_o_0 (N boot_o_1 (N o186 (N boot_o_7 (N o52 (N o68 (N o103 (F o172) Z) (N o136 (F o206) Z)) (N o87 (N o120 (F o190) Z) (F o156))) (N o60 (N o82 (N o112 (F o180) Z) (N o144 (F o214) Z)) (N o95 (N o128 (F o198) Z) (F o164)))) (N o43 (N o56 (N o72 (N o107 (F o176) Z) (N o140 (F o210) Z)) (N o91 (N o124 (F o194) Z) (F o160))) (N o64 (N o83 (N o116 (F o184) Z) (F o152)) (N o99 (N o132 (F o202) Z) (F o168))))) (N boot_o_5 (N boot_o_9 (N o54 (N o70 (N o105 (F o174) Z) (N o138 (F o208) Z)) (N o89 (N o122 (F o192) Z) (F o158))) (N o62 (N o78 (N o114 (F o182) Z) (F o150)) (N o97 (N o130 (F o200) Z) (F o166)))) (N o45 (N o58 (N o74 (N o109 (F o178) Z) (N o142 (F o212) Z)) (N o93 (N o126 (F o196) Z) (F o162))) (N o66 (N o85 (N o118 (F o188) Z) (F o154)) (N o101 (N o134 (F o204) Z) (F o170)))))) (N o49 (N boot_o_4 (N boot_o_8 (N o53 (N o69 (N o104 (F o173) Z) (N o137 (F o207) Z)) (N o88 (N o121 (F o191) Z) (F o157))) (N o61 (N o77 (N o113 (F o181) Z) (N o145 (F o215) Z)) (N o96 (N o129 (F o199) Z) (F o165)))) (N o187 (N o57 (N o73 (N o108 (F o177) Z) (N o141 (F o211) Z)) (N o92 (N o125 (F o195) Z) (F o161))) (N o65 (N o84 (N o117 (F o185) Z) (F o153)) (N o100 (N o133 (F o203) Z) (F o169))))) (N boot_o_6 (N boot_o_10 (N o55 (N o71 (N o106 (F o175) Z) (N o139 (F o209) Z)) (N o90 (N o123 (F o193) Z) (F o159))) (N o63 (N o79 (N o115 (F o183) Z) (F o151)) (N o98 (N o131 (F o201) Z) (F o167)))) (N o46 (N o59 (N o75 (N o110 (F o179) Z) (N o143 (F o213) Z)) (N o94 (N o127 (F o197) Z) (F o163))) (N o67 (N o86 (N o119 (F o189) Z) (F o155)) (N o102 (N o135 (F o205) Z) (F o171)))))))
noncomputable def tree_273 : Params → BT := (N boot_o_0 (N boot_o_1 (N o216 (N boot_o_7 (N o52 (N o68 (N o103 (F o172) (F o240)) (N o136 (F o206) (F o272))) (N o87 (N o120 (F o190) (F o256)) (N o156 (F o224) Z))) (N o60 (N o82 (N o112 (F o180) (F o248)) (N o144 (F o214) Z)) (N o95 (N o128 (F o198) (F o264)) (N o164 (F o232) Z)))) (N o43 (N o56 (N o72 (N o107 (F o176) (F o244)) (N o140 (F o210) Z)) (N o91 (N o124 (F o194) (F o260)) (N o160 (F o228) Z))) (N o64 (N o83 (N o116 (F o184) (F o252)) (N o152 (F o220) Z)) (N o99 (N o132 (F o202) (F o268)) (N o168 (F o236) Z))))) (N boot_o_5 (N boot_o_9 (N o54 (N o70 (N o105 (F o174) (F o242)) (N o138 (F o208) Z)) (N o89 (N o122 (F o192) (F o258)) (N o158 (F o226) Z))) (N o62 (N o78 (N o114 (F o182) (F o250)) (N o150 (F o218) Z)) (N o97 (N o130 (F o200) (F o266)) (N o166 (F o234) Z)))) (N o45 (N o58 (N o74 (N o109 (F o178) (F o246)) (N o142 (F o212) Z)) (N o93 (N o126 (F o196) (F o262)) (N o162 (F o230) Z))) (N o66 (N o85 (N o118 (F o188) (F o254)) (N o154 (F o222) Z)) (N o101 (N o134 (F o204) (F o270)) (N o170 (F o238) Z)))))) (N o49 (N boot_o_4 (N boot_o_8 (N o53 (N o69 (N o104 (F o173) (F o241)) (N o137 (F o207) (F o273))) (N o88 (N o121 (F o191) (F o257)) (N o157 (F o225) Z))) (N o61 (N o77 (N o113 (F o181) (F o249)) (N o145 (F o215) Z)) (N o96 (N o129 (F o199) (F o265)) (N o165 (F o233) Z)))) (N o217 (N o57 (N o73 (N o108 (F o177) (F o245)) (N o141 (F o211) Z)) (N o92 (N o125 (F o195) (F o261)) (N o161 (F o229) Z))) (N o65 (N o84 (N o117 (F o185) (F o253)) (N o153 (F o221) Z)) (N o100 (N o133 (F o203) (F o269)) (N o169 (F o237) Z))))) (N boot_o_6 (N boot_o_10 (N o55 (N o71 (N o106 (F o175) (F o243)) (N o139 (F o209) Z)) (N o90 (N o123 (F o193) (F o259)) (N o159 (F o227) Z))) (N o63 (N o79 (N o115 (F o183) (F o251)) (N o151 (F o219) Z)) (N o98 (N o131 (F o201) (F o267)) (N o167 (F o235) Z)))) (N o46 (N o59 (N o75 (N o110 (F o179) (F o247)) (N o143 (F o213) Z)) (N o94 (N o127 (F o197) (F o263)) (N o163 (F o231) Z))) (N o67 (N o86 (N o119 (F o189) (F o255)) (N o155 (F o223) Z)) (N o102 (N o135 (F o205) (F o271)) (N o171 (F o239) Z)))))))
noncomputable def tree_359 : Params → BT := (N boot_o_0 (N boot_o_1 (N o274 (N boot_o_7 (N o52 (N o68 (N o103 (N o172 (F o306) Z) (F o240)) (N o136 (N o206 (F o338) Z) (F o272))) (N o87 (N o120 (N o190 (F o322) Z) (F o256)) (N o156 (N o224 (F o354) Z) (F o290)))) (N o60 (N o82 (N o112 (N o180 (F o314) Z) (F o248)) (N o144 (N o214 (F o346) Z) (F o282))) (N o95 (N o128 (N o198 (F o330) Z) (F o264)) (N o164 (F o232) (F o298))))) (N o43 (N o56 (N o72 (N o107 (N o176 (F o310) Z) (F o244)) (N o140 (N o210 (F o342) Z) (F o278))) (N o91 (N o124 (N o194 (F o326) Z) (F o260)) (N o160 (N o228 (F o358) Z) (F o294)))) (N o64 (N o83 (N o116 (N o184 (F o318) Z) (F o252)) (N o152 (N o220 (F o350) Z) (F o286))) (N o99 (N o132 (N o202 (F o334) Z) (F o268)) (N o168 (F o236) (F o302)))))) (N boot_o_5 (N boot_o_9 (N o54 (N o70 (N o105 (N o174 (F o308) Z) (F o242)) (N o138 (N o208 (F o340) Z) (F o276))) (N o89 (N o122 (N o192 (F o324) Z) (F o258)) (N o158 (N o226 (F o356) Z) (F o292)))) (N o62 (N o78 (N o114 (N o182 (F o316) Z) (F o250)) (N o150 (N o218 (F o348) Z) (F o284))) (N o97 (N o130 (N o200 (F o332) Z) (F o266)) (N o166 (F o234) (F o300))))) (N o45 (N o58 (N o74 (N o109 (N o178 (F o312) Z) (F o246)) (N o142 (N o212 (F o344) Z) (F o280))) (N o93 (N o126 (N o196 (F o328) Z) (F o262)) (N o162 (F o230) (F o296)))) (N o66 (N o85 (N o118 (N o188 (F o320) Z) (F o254)) (N o154 (N o222 (F o352) Z) (F o288))) (N o101 (N o134 (N o204 (F o336) Z) (F o270)) (N o170 (F o238) (F o304))))))) (N o49 (N boot_o_4 (N boot_o_8 (N o53 (N o69 (N o104 (N o173 (F o307) Z) (F o241)) (N o137 (N o207 (F o339) Z) (F o273))) (N o88 (N o121 (N o191 (F o323) Z) (F o257)) (N o157 (N o225 (F o355) Z) (F o291)))) (N o61 (N o77 (N o113 (N o181 (F o315) Z) (F o249)) (N o145 (N o215 (F o347) Z) (F o283))) (N o96 (N o129 (N o199 (F o331) Z) (F o265)) (N o165 (F o233) (F o299))))) (N o275 (N o57 (N o73 (N o108 (N o177 (F o311) Z) (F o245)) (N o141 (N o211 (F o343) Z) (F o279))) (N o92 (N o125 (N o195 (F o327) Z) (F o261)) (N o161 (N o229 (F o359) Z) (F o295)))) (N o65 (N o84 (N o117 (N o185 (F o319) Z) (F o253)) (N o153 (N o221 (F o351) Z) (F o287))) (N o100 (N o133 (N o203 (F o335) Z) (F o269)) (N o169 (F o237) (F o303)))))) (N boot_o_6 (N boot_o_10 (N o55 (N o71 (N o106 (N o175 (F o309) Z) (F o243)) (N o139 (N o209 (F o341) Z) (F o277))) (N o90 (N o123 (N o193 (F o325) Z) (F o259)) (N o159 (N o227 (F o357) Z) (F o293)))) (N o63 (N o79 (N o115 (N o183 (F o317) Z) (F o251)) (N o151 (N o219 (F o349) Z) (F o285))) (N o98 (N o131 (N o201 (F o333) Z) (F o267)) (N o167 (F o235) (F o301))))) (N o46 (N o59 (N o75 (N o110 (N o179 (F o313) Z) (F o247)) (N o143 (N o213 (F o345) Z) (F o281))) (N o94 (N o127 (N o197 (F o329) Z) (F o263)) (N o163 (F o231) (F o297)))) (N o67 (N o86 (N o119 (N o189 (F o321) Z) (F o255)) (N o155 (N o223 (F o353) Z) (F o289))) (N o102 (N o135 (N o205 (F o337) Z) (F o271)) (N o171 (F o239) (F o305))))))))
noncomputable def tree_396 : Params → BT := (N boot_o_0 (N boot_o_1 (N o360 (N boot_o_7 (N o52 (N o68 (N o103 (N o172 (F o306) Z) (N o240 (F o372) Z)) (N o136 (N o206 (F o338) Z) (F o272))) (N o87 (N o120 (N o190 (F o322) Z) (N o256 (F o388) Z)) (N o156 (N o224 (F o354) Z) (F o290)))) (N o60 (N o82 (N o112 (N o180 (F o314) Z) (N o248 (F o380) Z)) (N o144 (N o214 (F o346) Z) (F o282))) (N o95 (N o128 (N o198 (F o330) Z) (N o264 (F o396) Z)) (N o164 (N o232 (F o364) Z) (F o298))))) (N o43 (N o56 (N o72 (N o107 (N o176 (F o310) Z) (N o244 (F o376) Z)) (N o140 (N o210 (F o342) Z) (F o278))) (N o91 (N o124 (N o194 (F o326) Z) (N o260 (F o392) Z)) (N o160 (N o228 (F o358) Z) (F o294)))) (N o64 (N o83 (N o116 (N o184 (F o318) Z) (N o252 (F o384) Z)) (N o152 (N o220 (F o350) Z) (F o286))) (N o99 (N o132 (N o202 (F o334) Z) (F o268)) (N o168 (N o236 (F o368) Z) (F o302)))))) (N boot_o_5 (N boot_o_9 (N o54 (N o70 (N o105 (N o174 (F o308) Z) (N o242 (F o374) Z)) (N o138 (N o208 (F o340) Z) (F o276))) (N o89 (N o122 (N o192 (F o324) Z) (N o258 (F o390) Z)) (N o158 (N o226 (F o356) Z) (F o292)))) (N o62 (N o78 (N o114 (N o182 (F o316) Z) (N o250 (F o382) Z)) (N o150 (N o218 (F o348) Z) (F o284))) (N o97 (N o130 (N o200 (F o332) Z) (F o266)) (N o166 (N o234 (F o366) Z) (F o300))))) (N o45 (N o58 (N o74 (N o109 (N o178 (F o312) Z) (N o246 (F o378) Z)) (N o142 (N o212 (F o344) Z) (F o280))) (N o93 (N o126 (N o196 (F o328) Z) (N o262 (F o394) Z)) (N o162 (N o230 (F o362) Z) (F o296)))) (N o66 (N o85 (N o118 (N o188 (F o320) Z) (N o254 (F o386) Z)) (N o154 (N o222 (F o352) Z) (F o288))) (N o101 (N o134 (N o204 (F o336) Z) (F o270)) (N o170 (N o238 (F o370) Z) (F o304))))))) (N o49 (N boot_o_4 (N boot_o_8 (N o53 (N o69 (N o104 (N o173 (F o307) Z) (N o241 (F o373) Z)) (N o137 (N o207 (F o339) Z) (F o273))) (N o88 (N o121 (N o191 (F o323) Z) (N o257 (F o389) Z)) (N o157 (N o225 (F o355) Z) (F o291)))) (N o61 (N o77 (N o113 (N o181 (F o315) Z) (N o249 (F o381) Z)) (N o145 (N o215 (F o347) Z) (F o283))) (N o96 (N o129 (N o199 (F o331) Z) (F o265)) (N o165 (N o233 (F o365) Z) (F o299))))) (N o361 (N o57 (N o73 (N o108 (N o177 (F o311) Z) (N o245 (F o377) Z)) (N o141 (N o211 (F o343) Z) (F o279))) (N o92 (N o125 (N o195 (F o327) Z) (N o261 (F o393) Z)) (N o161 (N o229 (F o359) Z) (F o295)))) (N o65 (N o84 (N o117 (N o185 (F o319) Z) (N o253 (F o385) Z)) (N o153 (N o221 (F o351) Z) (F o287))) (N o100 (N o133 (N o203 (F o335) Z) (F o269)) (N o169 (N o237 (F o369) Z) (F o303)))))) (N boot_o_6 (N boot_o_10 (N o55 (N o71 (N o106 (N o175 (F o309) Z) (N o243 (F o375) Z)) (N o139 (N o209 (F o341) Z) (F o277))) (N o90 (N o123 (N o193 (F o325) Z) (N o259 (F o391) Z)) (N o159 (N o227 (F o357) Z) (F o293)))) (N o63 (N o79 (N o115 (N o183 (F o317) Z) (N o251 (F o383) Z)) (N o151 (N o219 (F o349) Z) (F o285))) (N o98 (N o131 (N o201 (F o333) Z) (F o267)) (N o167 (N o235 (F o367) Z) (F o301))))) (N o46 (N o59 (N o75 (N o110 (N o179 (F o313) Z) (N o247 (F o379) Z)) (N o143 (N o213 (F o345) Z) (F o281))) (N o94 (N o127 (N o197 (F o329) Z) (N o263 (F o395) Z)) (N o163 (N o231 (F o363) Z) (F o297)))) (N o67 (N o86 (N o119 (N o189 (F o321) Z) (N o255 (F o387) Z)) (N o155 (N o223 (F o353) Z) (F o289))) (N o102 (N o135 (N o205 (F o337) Z) (F o271)) (N o171 (N o239 (F o371) Z) (F o305))))))))
noncomputable def tree_438 : Params → BT := (N boot_o_0 (N boot_o_1 (N o397 (N boot_o_7 (N o52 (N o68 (N o103 (N o172 (F o306) (F o438)) (N o240 (F o372) Z)) (N o136 (N o206 (F o338) Z) (N o272 (F o406) Z))) (N o87 (N o120 (N o190 (F o322) Z) (N o256 (F o388) Z)) (N o156 (N o224 (F o354) Z) (N o290 (F o422) Z)))) (N o60 (N o82 (N o112 (N o180 (F o314) Z) (N o248 (F o380) Z)) (N o144 (N o214 (F o346) Z) (N o282 (F o414) Z))) (N o95 (N o128 (N o198 (F o330) Z) (N o264 (F o396) Z)) (N o164 (N o232 (F o364) Z) (N o298 (F o430) Z))))) (N o43 (N o56 (N o72 (N o107 (N o176 (F o310) Z) (N o244 (F o376) Z)) (N o140 (N o210 (F o342) Z) (N o278 (F o410) Z))) (N o91 (N o124 (N o194 (F o326) Z) (N o260 (F o392) Z)) (N o160 (N o228 (F o358) Z) (N o294 (F o426) Z)))) (N o64 (N o83 (N o116 (N o184 (F o318) Z) (N o252 (F o384) Z)) (N o152 (N o220 (F o350) Z) (N o286 (F o418) Z))) (N o99 (N o132 (N o202 (F o334) Z) (N o268 (F o402) Z)) (N o168 (N o236 (F o368) Z) (N o302 (F o434) Z)))))) (N boot_o_5 (N boot_o_9 (N o54 (N o70 (N o105 (N o174 (F o308) Z) (N o242 (F o374) Z)) (N o138 (N o208 (F o340) Z) (N o276 (F o408) Z))) (N o89 (N o122 (N o192 (F o324) Z) (N o258 (F o390) Z)) (N o158 (N o226 (F o356) Z) (N o292 (F o424) Z)))) (N o62 (N o78 (N o114 (N o182 (F o316) Z) (N o250 (F o382) Z)) (N o150 (N o218 (F o348) Z) (N o284 (F o416) Z))) (N o97 (N o130 (N o200 (F o332) Z) (N o266 (F o400) Z)) (N o166 (N o234 (F o366) Z) (N o300 (F o432) Z))))) (N o45 (N o58 (N o74 (N o109 (N o178 (F o312) Z) (N o246 (F o378) Z)) (N o142 (N o212 (F o344) Z) (N o280 (F o412) Z))) (N o93 (N o126 (N o196 (F o328) Z) (N o262 (F o394) Z)) (N o162 (N o230 (F o362) Z) (N o296 (F o428) Z)))) (N o66 (N o85 (N o118 (N o188 (F o320) Z) (N o254 (F o386) Z)) (N o154 (N o222 (F o352) Z) (N o288 (F o420) Z))) (N o101 (N o134 (N o204 (F o336) Z) (N o270 (F o404) Z)) (N o170 (N o238 (F o370) Z) (N o304 (F o436) Z))))))) (N o49 (N boot_o_4 (N boot_o_8 (N o53 (N o69 (N o104 (N o173 (F o307) Z) (N o241 (F o373) Z)) (N o137 (N o207 (F o339) Z) (N o273 (F o407) Z))) (N o88 (N o121 (N o191 (F o323) Z) (N o257 (F o389) Z)) (N o157 (N o225 (F o355) Z) (N o291 (F o423) Z)))) (N o61 (N o77 (N o113 (N o181 (F o315) Z) (N o249 (F o381) Z)) (N o145 (N o215 (F o347) Z) (N o283 (F o415) Z))) (N o96 (N o129 (N o199 (F o331) Z) (N o265 (F o399) Z)) (N o165 (N o233 (F o365) Z) (N o299 (F o431) Z))))) (N o398 (N o57 (N o73 (N o108 (N o177 (F o311) Z) (N o245 (F o377) Z)) (N o141 (N o211 (F o343) Z) (N o279 (F o411) Z))) (N o92 (N o125 (N o195 (F o327) Z) (N o261 (F o393) Z)) (N o161 (N o229 (F o359) Z) (N o295 (F o427) Z)))) (N o65 (N o84 (N o117 (N o185 (F o319) Z) (N o253 (F o385) Z)) (N o153 (N o221 (F o351) Z) (N o287 (F o419) Z))) (N o100 (N o133 (N o203 (F o335) Z) (N o269 (F o403) Z)) (N o169 (N o237 (F o369) Z) (N o303 (F o435) Z)))))) (N boot_o_6 (N boot_o_10 (N o55 (N o71 (N o106 (N o175 (F o309) Z) (N o243 (F o375) Z)) (N o139 (N o209 (F o341) Z) (N o277 (F o409) Z))) (N o90 (N o123 (N o193 (F o325) Z) (N o259 (F o391) Z)) (N o159 (N o227 (F o357) Z) (N o293 (F o425) Z)))) (N o63 (N o79 (N o115 (N o183 (F o317) Z) (N o251 (F o383) Z)) (N o151 (N o219 (F o349) Z) (N o285 (F o417) Z))) (N o98 (N o131 (N o201 (F o333) Z) (N o267 (F o401) Z)) (N o167 (N o235 (F o367) Z) (N o301 (F o433) Z))))) (N o46 (N o59 (N o75 (N o110 (N o179 (F o313) Z) (N o247 (F o379) Z)) (N o143 (N o213 (F o345) Z) (N o281 (F o413) Z))) (N o94 (N o127 (N o197 (F o329) Z) (N o263 (F o395) Z)) (N o163 (N o231 (F o363) Z) (N o297 (F o429) Z)))) (N o67 (N o86 (N o119 (N o189 (F o321) Z) (N o255 (F o387) Z)) (N o155 (N o223 (F o353) Z) (N o289 (F o421) Z))) (N o102 (N o135 (N o205 (F o337) Z) (N o271 (F o405) Z)) (N o171 (N o239 (F o371) Z) (N o305 (F o437) Z))))))))
noncomputable def tree_493 : Params → BT := (N boot_o_0 (N boot_o_1 (N o439 (N boot_o_7 (N o52 (N o68 (N o103 (N o172 (F o306) (F o438)) (N o240 (F o372) Z)) (N o136 (N o206 (F o338) (F o472)) (N o272 (F o406) Z))) (N o87 (N o120 (N o190 (F o322) (F o456)) (N o256 (F o388) Z)) (N o156 (N o224 (F o354) (F o488)) (N o290 (F o422) Z)))) (N o60 (N o82 (N o112 (N o180 (F o314) (F o448)) (N o248 (F o380) Z)) (N o144 (N o214 (F o346) (F o480)) (N o282 (F o414) Z))) (N o95 (N o128 (N o198 (F o330) (F o464)) (N o264 (F o396) Z)) (N o164 (N o232 (F o364) Z) (N o298 (F o430) Z))))) (N o43 (N o56 (N o72 (N o107 (N o176 (F o310) (F o444)) (N o244 (F o376) Z)) (N o140 (N o210 (F o342) (F o476)) (N o278 (F o410) Z))) (N o91 (N o124 (N o194 (F o326) (F o460)) (N o260 (F o392) Z)) (N o160 (N o228 (F o358) (F o492)) (N o294 (F o426) Z)))) (N o64 (N o83 (N o116 (N o184 (F o318) (F o452)) (N o252 (F o384) Z)) (N o152 (N o220 (F o350) (F o484)) (N o286 (F o418) Z))) (N o99 (N o132 (N o202 (F o334) (F o468)) (N o268 (F o402) Z)) (N o168 (N o236 (F o368) Z) (N o302 (F o434) Z)))))) (N boot_o_5 (N boot_o_9 (N o54 (N o70 (N o105 (N o174 (F o308) (F o442)) (N o242 (F o374) Z)) (N o138 (N o208 (F o340) (F o474)) (N o276 (F o408) Z))) (N o89 (N o122 (N o192 (F o324) (F o458)) (N o258 (F o390) Z)) (N o158 (N o226 (F o356) (F o490)) (N o292 (F o424) Z)))) (N o62 (N o78 (N o114 (N o182 (F o316) (F o450)) (N o250 (F o382) Z)) (N o150 (N o218 (F o348) (F o482)) (N o284 (F o416) Z))) (N o97 (N o130 (N o200 (F o332) (F o466)) (N o266 (F o400) Z)) (N o166 (N o234 (F o366) Z) (N o300 (F o432) Z))))) (N o45 (N o58 (N o74 (N o109 (N o178 (F o312) (F o446)) (N o246 (F o378) Z)) (N o142 (N o212 (F o344) (F o478)) (N o280 (F o412) Z))) (N o93 (N o126 (N o196 (F o328) (F o462)) (N o262 (F o394) Z)) (N o162 (N o230 (F o362) Z) (N o296 (F o428) Z)))) (N o66 (N o85 (N o118 (N o188 (F o320) (F o454)) (N o254 (F o386) Z)) (N o154 (N o222 (F o352) (F o486)) (N o288 (F o420) Z))) (N o101 (N o134 (N o204 (F o336) (F o470)) (N o270 (F o404) Z)) (N o170 (N o238 (F o370) Z) (N o304 (F o436) Z))))))) (N o49 (N boot_o_4 (N boot_o_8 (N o53 (N o69 (N o104 (N o173 (F o307) (F o441)) (N o241 (F o373) Z)) (N o137 (N o207 (F o339) (F o473)) (N o273 (F o407) Z))) (N o88 (N o121 (N o191 (F o323) (F o457)) (N o257 (F o389) Z)) (N o157 (N o225 (F o355) (F o489)) (N o291 (F o423) Z)))) (N o61 (N o77 (N o113 (N o181 (F o315) (F o449)) (N o249 (F o381) Z)) (N o145 (N o215 (F o347) (F o481)) (N o283 (F o415) Z))) (N o96 (N o129 (N o199 (F o331) (F o465)) (N o265 (F o399) Z)) (N o165 (N o233 (F o365) Z) (N o299 (F o431) Z))))) (N o440 (N o57 (N o73 (N o108 (N o177 (F o311) (F o445)) (N o245 (F o377) Z)) (N o141 (N o211 (F o343) (F o477)) (N o279 (F o411) Z))) (N o92 (N o125 (N o195 (F o327) (F o461)) (N o261 (F o393) Z)) (N o161 (N o229 (F o359) (F o493)) (N o295 (F o427) Z)))) (N o65 (N o84 (N o117 (N o185 (F o319) (F o453)) (N o253 (F o385) Z)) (N o153 (N o221 (F o351) (F o485)) (N o287 (F o419) Z))) (N o100 (N o133 (N o203 (F o335) (F o469)) (N o269 (F o403) Z)) (N o169 (N o237 (F o369) Z) (N o303 (F o435) Z)))))) (N boot_o_6 (N boot_o_10 (N o55 (N o71 (N o106 (N o175 (F o309) (F o443)) (N o243 (F o375) Z)) (N o139 (N o209 (F o341) (F o475)) (N o277 (F o409) Z))) (N o90 (N o123 (N o193 (F o325) (F o459)) (N o259 (F o391) Z)) (N o159 (N o227 (F o357) (F o491)) (N o293 (F o425) Z)))) (N o63 (N o79 (N o115 (N o183 (F o317) (F o451)) (N o251 (F o383) Z)) (N o151 (N o219 (F o349) (F o483)) (N o285 (F o417) Z))) (N o98 (N o131 (N o201 (F o333) (F o467)) (N o267 (F o401) Z)) (N o167 (N o235 (F o367) Z) (N o301 (F o433) Z))))) (N o46 (N o59 (N o75 (N o110 (N o179 (F o313) (F o447)) (N o247 (F o379) Z)) (N o143 (N o213 (F o345) (F o479)) (N o281 (F o413) Z))) (N o94 (N o127 (N o197 (F o329) (F o463)) (N o263 (F o395) Z)) (N o163 (N o231 (F o363) Z) (N o297 (F o429) Z)))) (N o67 (N o86 (N o119 (N o189 (F o321) (F o455)) (N o255 (F o387) Z)) (N o155 (N o223 (F o353) (F o487)) (N o289 (F o421) Z))) (N o102 (N o135 (N o205 (F o337) (F o471)) (N o271 (F o405) Z)) (N o171 (N o239 (F o371) Z) (N o305 (F o437) Z))))))))
noncomputable def tree_551 : Params → BT := (N boot_o_0 (N boot_o_1 (N o494 (N boot_o_7 (N o52 (N o68 (N o103 (N o172 (F o306) (F o438)) (N o240 (F o372) (F o506))) (N o136 (N o206 (F o338) (F o472)) (N o272 (F o406) (F o538)))) (N o87 (N o120 (N o190 (F o322) (F o456)) (N o256 (F o388) (F o522))) (N o156 (N o224 (F o354) (F o488)) (N o290 (F o422) Z)))) (N o60 (N o82 (N o112 (N o180 (F o314) (F o448)) (N o248 (F o380) (F o514))) (N o144 (N o214 (F o346) (F o480)) (N o282 (F o414) (F o546)))) (N o95 (N o128 (N o198 (F o330) (F o464)) (N o264 (F o396) (F o530))) (N o164 (N o232 (F o364) (F o498)) (N o298 (F o430) Z))))) (N o43 (N o56 (N o72 (N o107 (N o176 (F o310) (F o444)) (N o244 (F o376) (F o510))) (N o140 (N o210 (F o342) (F o476)) (N o278 (F o410) (F o542)))) (N o91 (N o124 (N o194 (F o326) (F o460)) (N o260 (F o392) (F o526))) (N o160 (N o228 (F o358) (F o492)) (N o294 (F o426) Z)))) (N o64 (N o83 (N o116 (N o184 (F o318) (F o452)) (N o252 (F o384) (F o518))) (N o152 (N o220 (F o350) (F o484)) (N o286 (F o418) (F o550)))) (N o99 (N o132 (N o202 (F o334) (F o468)) (N o268 (F o402) (F o534))) (N o168 (N o236 (F o368) (F o502)) (N o302 (F o434) Z)))))) (N boot_o_5 (N boot_o_9 (N o54 (N o70 (N o105 (N o174 (F o308) (F o442)) (N o242 (F o374) (F o508))) (N o138 (N o208 (F o340) (F o474)) (N o276 (F o408) (F o540)))) (N o89 (N o122 (N o192 (F o324) (F o458)) (N o258 (F o390) (F o524))) (N o158 (N o226 (F o356) (F o490)) (N o292 (F o424) Z)))) (N o62 (N o78 (N o114 (N o182 (F o316) (F o450)) (N o250 (F o382) (F o516))) (N o150 (N o218 (F o348) (F o482)) (N o284 (F o416) (F o548)))) (N o97 (N o130 (N o200 (F o332) (F o466)) (N o266 (F o400) (F o532))) (N o166 (N o234 (F o366) (F o500)) (N o300 (F o432) Z))))) (N o45 (N o58 (N o74 (N o109 (N o178 (F o312) (F o446)) (N o246 (F o378) (F o512))) (N o142 (N o212 (F o344) (F o478)) (N o280 (F o412) (F o544)))) (N o93 (N o126 (N o196 (F o328) (F o462)) (N o262 (F o394) (F o528))) (N o162 (N o230 (F o362) (F o496)) (N o296 (F o428) Z)))) (N o66 (N o85 (N o118 (N o188 (F o320) (F o454)) (N o254 (F o386) (F o520))) (N o154 (N o222 (F o352) (F o486)) (N o288 (F o420) Z))) (N o101 (N o134 (N o204 (F o336) (F o470)) (N o270 (F o404) (F o536))) (N o170 (N o238 (F o370) (F o504)) (N o304 (F o436) Z))))))) (N o49 (N boot_o_4 (N boot_o_8 (N o53 (N o69 (N o104 (N o173 (F o307) (F o441)) (N o241 (F o373) (F o507))) (N o137 (N o207 (F o339) (F o473)) (N o273 (F o407) (F o539)))) (N o88 (N o121 (N o191 (F o323) (F o457)) (N o257 (F o389) (F o523))) (N o157 (N o225 (F o355) (F o489)) (N o291 (F o423) Z)))) (N o61 (N o77 (N o113 (N o181 (F o315) (F o449)) (N o249 (F o381) (F o515))) (N o145 (N o215 (F o347) (F o481)) (N o283 (F o415) (F o547)))) (N o96 (N o129 (N o199 (F o331) (F o465)) (N o265 (F o399) (F o531))) (N o165 (N o233 (F o365) (F o499)) (N o299 (F o431) Z))))) (N o495 (N o57 (N o73 (N o108 (N o177 (F o311) (F o445)) (N o245 (F o377) (F o511))) (N o141 (N o211 (F o343) (F o477)) (N o279 (F o411) (F o543)))) (N o92 (N o125 (N o195 (F o327) (F o461)) (N o261 (F o393) (F o527))) (N o161 (N o229 (F o359) (F o493)) (N o295 (F o427) Z)))) (N o65 (N o84 (N o117 (N o185 (F o319) (F o453)) (N o253 (F o385) (F o519))) (N o153 (N o221 (F o351) (F o485)) (N o287 (F o419) (F o551)))) (N o100 (N o133 (N o203 (F o335) (F o469)) (N o269 (F o403) (F o535))) (N o169 (N o237 (F o369) (F o503)) (N o303 (F o435) Z)))))) (N boot_o_6 (N boot_o_10 (N o55 (N o71 (N o106 (N o175 (F o309) (F o443)) (N o243 (F o375) (F o509))) (N o139 (N o209 (F o341) (F o475)) (N o277 (F o409) (F o541)))) (N o90 (N o123 (N o193 (F o325) (F o459)) (N o259 (F o391) (F o525))) (N o159 (N o227 (F o357) (F o491)) (N o293 (F o425) Z)))) (N o63 (N o79 (N o115 (N o183 (F o317) (F o451)) (N o251 (F o383) (F o517))) (N o151 (N o219 (F o349) (F o483)) (N o285 (F o417) (F o549)))) (N o98 (N o131 (N o201 (F o333) (F o467)) (N o267 (F o401) (F o533))) (N o167 (N o235 (F o367) (F o501)) (N o301 (F o433) Z))))) (N o46 (N o59 (N o75 (N o110 (N o179 (F o313) (F o447)) (N o247 (F o379) (F o513))) (N o143 (N o213 (F o345) (F o479)) (N o281 (F o413) (F o545)))) (N o94 (N o127 (N o197 (F o329) (F o463)) (N o263 (F o395) (F o529))) (N o163 (N o231 (F o363) (F o497)) (N o297 (F o429) Z)))) (N o67 (N o86 (N o119 (N o189 (F o321) (F o455)) (N o255 (F o387) (F o521))) (N o155 (N o223 (F o353) (F o487)) (N o289 (F o421) Z))) (N o102 (N o135 (N o205 (F o337) (F o471)) (N o271 (F o405) (F o537))) (N o171 (N o239 (F o371) (F o505)) (N o305 (F o437) Z))))))))
noncomputable def tree_603 : Params → BT := (N boot_o_0 (N boot_o_1 (N o552 (N boot_o_7 (N o52 (N o68 (N o103 (N o172 (N o306 (F o572) Z) (F o438)) (N o240 (F o372) (F o506))) (N o136 (N o206 (F o338) (F o472)) (N o272 (F o406) (F o538)))) (N o87 (N o120 (N o190 (N o322 (F o588) Z) (F o456)) (N o256 (F o388) (F o522))) (N o156 (N o224 (F o354) (F o488)) (N o290 (F o422) (F o556))))) (N o60 (N o82 (N o112 (N o180 (N o314 (F o580) Z) (F o448)) (N o248 (F o380) (F o514))) (N o144 (N o214 (F o346) (F o480)) (N o282 (F o414) (F o546)))) (N o95 (N o128 (N o198 (N o330 (F o596) Z) (F o464)) (N o264 (F o396) (F o530))) (N o164 (N o232 (F o364) (F o498)) (N o298 (F o430) (F o564)))))) (N o43 (N o56 (N o72 (N o107 (N o176 (N o310 (F o576) Z) (F o444)) (N o244 (F o376) (F o510))) (N o140 (N o210 (F o342) (F o476)) (N o278 (F o410) (F o542)))) (N o91 (N o124 (N o194 (N o326 (F o592) Z) (F o460)) (N o260 (F o392) (F o526))) (N o160 (N o228 (F o358) (F o492)) (N o294 (F o426) (F o560))))) (N o64 (N o83 (N o116 (N o184 (N o318 (F o584) Z) (F o452)) (N o252 (F o384) (F o518))) (N o152 (N o220 (F o350) (F o484)) (N o286 (F o418) (F o550)))) (N o99 (N o132 (N o202 (N o334 (F o600) Z) (F o468)) (N o268 (F o402) (F o534))) (N o168 (N o236 (F o368) (F o502)) (N o302 (F o434) (F o568))))))) (N boot_o_5 (N boot_o_9 (N o54 (N o70 (N o105 (N o174 (N o308 (F o574) Z) (F o442)) (N o242 (F o374) (F o508))) (N o138 (N o208 (F o340) (F o474)) (N o276 (F o408) (F o540)))) (N o89 (N o122 (N o192 (N o324 (F o590) Z) (F o458)) (N o258 (F o390) (F o524))) (N o158 (N o226 (F o356) (F o490)) (N o292 (F o424) (F o558))))) (N o62 (N o78 (N o114 (N o182 (N o316 (F o582) Z) (F o450)) (N o250 (F o382) (F o516))) (N o150 (N o218 (F o348) (F o482)) (N o284 (F o416) (F o548)))) (N o97 (N o130 (N o200 (N o332 (F o598) Z) (F o466)) (N o266 (F o400) (F o532))) (N o166 (N o234 (F o366) (F o500)) (N o300 (F o432) (F o566)))))) (N o45 (N o58 (N o74 (N o109 (N o178 (N o312 (F o578) Z) (F o446)) (N o246 (F o378) (F o512))) (N o142 (N o212 (F o344) (F o478)) (N o280 (F o412) (F o544)))) (N o93 (N o126 (N o196 (N o328 (F o594) Z) (F o462)) (N o262 (F o394) (F o528))) (N o162 (N o230 (F o362) (F o496)) (N o296 (F o428) (F o562))))) (N o66 (N o85 (N o118 (N o188 (N o320 (F o586) Z) (F o454)) (N o254 (F o386) (F o520))) (N o154 (N o222 (F o352) (F o486)) (N o288 (F o420) (F o554)))) (N o101 (N o134 (N o204 (N o336 (F o602) Z) (F o470)) (N o270 (F o404) (F o536))) (N o170 (N o238 (F o370) (F o504)) (N o304 (F o436) (F o570)))))))) (N o49 (N boot_o_4 (N boot_o_8 (N o53 (N o69 (N o104 (N o173 (N o307 (F o573) Z) (F o441)) (N o241 (F o373) (F o507))) (N o137 (N o207 (F o339) (F o473)) (N o273 (F o407) (F o539)))) (N o88 (N o121 (N o191 (N o323 (F o589) Z) (F o457)) (N o257 (F o389) (F o523))) (N o157 (N o225 (F o355) (F o489)) (N o291 (F o423) (F o557))))) (N o61 (N o77 (N o113 (N o181 (N o315 (F o581) Z) (F o449)) (N o249 (F o381) (F o515))) (N o145 (N o215 (F o347) (F o481)) (N o283 (F o415) (F o547)))) (N o96 (N o129 (N o199 (N o331 (F o597) Z) (F o465)) (N o265 (F o399) (F o531))) (N o165 (N o233 (F o365) (F o499)) (N o299 (F o431) (F o565)))))) (N o553 (N o57 (N o73 (N o108 (N o177 (N o311 (F o577) Z) (F o445)) (N o245 (F o377) (F o511))) (N o141 (N o211 (F o343) (F o477)) (N o279 (F o411) (F o543)))) (N o92 (N o125 (N o195 (N o327 (F o593) Z) (F o461)) (N o261 (F o393) (F o527))) (N o161 (N o229 (F o359) (F o493)) (N o295 (F o427) (F o561))))) (N o65 (N o84 (N o117 (N o185 (N o319 (F o585) Z) (F o453)) (N o253 (F o385) (F o519))) (N o153 (N o221 (F o351) (F o485)) (N o287 (F o419) (F o551)))) (N o100 (N o133 (N o203 (N o335 (F o601) Z) (F o469)) (N o269 (F o403) (F o535))) (N o169 (N o237 (F o369) (F o503)) (N o303 (F o435) (F o569))))))) (N boot_o_6 (N boot_o_10 (N o55 (N o71 (N o106 (N o175 (N o309 (F o575) Z) (F o443)) (N o243 (F o375) (F o509))) (N o139 (N o209 (F o341) (F o475)) (N o277 (F o409) (F o541)))) (N o90 (N o123 (N o193 (N o325 (F o591) Z) (F o459)) (N o259 (F o391) (F o525))) (N o159 (N o227 (F o357) (F o491)) (N o293 (F o425) (F o559))))) (N o63 (N o79 (N o115 (N o183 (N o317 (F o583) Z) (F o451)) (N o251 (F o383) (F o517))) (N o151 (N o219 (F o349) (F o483)) (N o285 (F o417) (F o549)))) (N o98 (N o131 (N o201 (N o333 (F o599) Z) (F o467)) (N o267 (F o401) (F o533))) (N o167 (N o235 (F o367) (F o501)) (N o301 (F o433) (F o567)))))) (N o46 (N o59 (N o75 (N o110 (N o179 (N o313 (F o579) Z) (F o447)) (N o247 (F o379) (F o513))) (N o143 (N o213 (F o345) (F o479)) (N o281 (F o413) (F o545)))) (N o94 (N o127 (N o197 (N o329 (F o595) Z) (F o463)) (N o263 (F o395) (F o529))) (N o163 (N o231 (F o363) (F o497)) (N o297 (F o429) (F o563))))) (N o67 (N o86 (N o119 (N o189 (N o321 (F o587) Z) (F o455)) (N o255 (F o387) (F o521))) (N o155 (N o223 (F o353) (F o487)) (N o289 (F o421) (F o555)))) (N o102 (N o135 (N o205 (N o337 (F o603) Z) (F o471)) (N o271 (F o405) (F o537))) (N o171 (N o239 (F o371) (F o505)) (N o305 (F o437) (F o571)))))))))
noncomputable def tree_660 : Params → BT := (N boot_o_0 (N boot_o_1 (N o604 (N boot_o_7 (N o52 (N o68 (N o103 (N o172 (N o306 (F o572) Z) (F o438)) (N o240 (N o372 (F o638) Z) (F o506))) (N o136 (N o206 (N o338 (F o606) Z) (F o472)) (N o272 (F o406) (F o538)))) (N o87 (N o120 (N o190 (N o322 (F o588) Z) (F o456)) (N o256 (N o388 (F o654) Z) (F o522))) (N o156 (N o224 (N o354 (F o622) Z) (F o488)) (N o290 (F o422) (F o556))))) (N o60 (N o82 (N o112 (N o180 (N o314 (F o580) Z) (F o448)) (N o248 (N o380 (F o646) Z) (F o514))) (N o144 (N o214 (N o346 (F o614) Z) (F o480)) (N o282 (F o414) (F o546)))) (N o95 (N o128 (N o198 (N o330 (F o596) Z) (F o464)) (N o264 (F o396) (F o530))) (N o164 (N o232 (N o364 (F o630) Z) (F o498)) (N o298 (F o430) (F o564)))))) (N o43 (N o56 (N o72 (N o107 (N o176 (N o310 (F o576) Z) (F o444)) (N o244 (N o376 (F o642) Z) (F o510))) (N o140 (N o210 (N o342 (F o610) Z) (F o476)) (N o278 (F o410) (F o542)))) (N o91 (N o124 (N o194 (N o326 (F o592) Z) (F o460)) (N o260 (N o392 (F o658) Z) (F o526))) (N o160 (N o228 (N o358 (F o626) Z) (F o492)) (N o294 (F o426) (F o560))))) (N o64 (N o83 (N o116 (N o184 (N o318 (F o584) Z) (F o452)) (N o252 (N o384 (F o650) Z) (F o518))) (N o152 (N o220 (N o350 (F o618) Z) (F o484)) (N o286 (F o418) (F o550)))) (N o99 (N o132 (N o202 (N o334 (F o600) Z) (F o468)) (N o268 (F o402) (F o534))) (N o168 (N o236 (N o368 (F o634) Z) (F o502)) (N o302 (F o434) (F o568))))))) (N boot_o_5 (N boot_o_9 (N o54 (N o70 (N o105 (N o174 (N o308 (F o574) Z) (F o442)) (N o242 (N o374 (F o640) Z) (F o508))) (N o138 (N o208 (N o340 (F o608) Z) (F o474)) (N o276 (F o408) (F o540)))) (N o89 (N o122 (N o192 (N o324 (F o590) Z) (F o458)) (N o258 (N o390 (F o656) Z) (F o524))) (N o158 (N o226 (N o356 (F o624) Z) (F o490)) (N o292 (F o424) (F o558))))) (N o62 (N o78 (N o114 (N o182 (N o316 (F o582) Z) (F o450)) (N o250 (N o382 (F o648) Z) (F o516))) (N o150 (N o218 (N o348 (F o616) Z) (F o482)) (N o284 (F o416) (F o548)))) (N o97 (N o130 (N o200 (N o332 (F o598) Z) (F o466)) (N o266 (F o400) (F o532))) (N o166 (N o234 (N o366 (F o632) Z) (F o500)) (N o300 (F o432) (F o566)))))) (N o45 (N o58 (N o74 (N o109 (N o178 (N o312 (F o578) Z) (F o446)) (N o246 (N o378 (F o644) Z) (F o512))) (N o142 (N o212 (N o344 (F o612) Z) (F o478)) (N o280 (F o412) (F o544)))) (N o93 (N o126 (N o196 (N o328 (F o594) Z) (F o462)) (N o262 (N o394 (F o660) Z) (F o528))) (N o162 (N o230 (N o362 (F o628) Z) (F o496)) (N o296 (F o428) (F o562))))) (N o66 (N o85 (N o118 (N o188 (N o320 (F o586) Z) (F o454)) (N o254 (N o386 (F o652) Z) (F o520))) (N o154 (N o222 (N o352 (F o620) Z) (F o486)) (N o288 (F o420) (F o554)))) (N o101 (N o134 (N o204 (N o336 (F o602) Z) (F o470)) (N o270 (F o404) (F o536))) (N o170 (N o238 (N o370 (F o636) Z) (F o504)) (N o304 (F o436) (F o570)))))))) (N o49 (N boot_o_4 (N boot_o_8 (N o53 (N o69 (N o104 (N o173 (N o307 (F o573) Z) (F o441)) (N o241 (N o373 (F o639) Z) (F o507))) (N o137 (N o207 (N o339 (F o607) Z) (F o473)) (N o273 (F o407) (F o539)))) (N o88 (N o121 (N o191 (N o323 (F o589) Z) (F o457)) (N o257 (N o389 (F o655) Z) (F o523))) (N o157 (N o225 (N o355 (F o623) Z) (F o489)) (N o291 (F o423) (F o557))))) (N o61 (N o77 (N o113 (N o181 (N o315 (F o581) Z) (F o449)) (N o249 (N o381 (F o647) Z) (F o515))) (N o145 (N o215 (N o347 (F o615) Z) (F o481)) (N o283 (F o415) (F o547)))) (N o96 (N o129 (N o199 (N o331 (F o597) Z) (F o465)) (N o265 (F o399) (F o531))) (N o165 (N o233 (N o365 (F o631) Z) (F o499)) (N o299 (F o431) (F o565)))))) (N o605 (N o57 (N o73 (N o108 (N o177 (N o311 (F o577) Z) (F o445)) (N o245 (N o377 (F o643) Z) (F o511))) (N o141 (N o211 (N o343 (F o611) Z) (F o477)) (N o279 (F o411) (F o543)))) (N o92 (N o125 (N o195 (N o327 (F o593) Z) (F o461)) (N o261 (N o393 (F o659) Z) (F o527))) (N o161 (N o229 (N o359 (F o627) Z) (F o493)) (N o295 (F o427) (F o561))))) (N o65 (N o84 (N o117 (N o185 (N o319 (F o585) Z) (F o453)) (N o253 (N o385 (F o651) Z) (F o519))) (N o153 (N o221 (N o351 (F o619) Z) (F o485)) (N o287 (F o419) (F o551)))) (N o100 (N o133 (N o203 (N o335 (F o601) Z) (F o469)) (N o269 (F o403) (F o535))) (N o169 (N o237 (N o369 (F o635) Z) (F o503)) (N o303 (F o435) (F o569))))))) (N boot_o_6 (N boot_o_10 (N o55 (N o71 (N o106 (N o175 (N o309 (F o575) Z) (F o443)) (N o243 (N o375 (F o641) Z) (F o509))) (N o139 (N o209 (N o341 (F o609) Z) (F o475)) (N o277 (F o409) (F o541)))) (N o90 (N o123 (N o193 (N o325 (F o591) Z) (F o459)) (N o259 (N o391 (F o657) Z) (F o525))) (N o159 (N o227 (N o357 (F o625) Z) (F o491)) (N o293 (F o425) (F o559))))) (N o63 (N o79 (N o115 (N o183 (N o317 (F o583) Z) (F o451)) (N o251 (N o383 (F o649) Z) (F o517))) (N o151 (N o219 (N o349 (F o617) Z) (F o483)) (N o285 (F o417) (F o549)))) (N o98 (N o131 (N o201 (N o333 (F o599) Z) (F o467)) (N o267 (F o401) (F o533))) (N o167 (N o235 (N o367 (F o633) Z) (F o501)) (N o301 (F o433) (F o567)))))) (N o46 (N o59 (N o75 (N o110 (N o179 (N o313 (F o579) Z) (F o447)) (N o247 (N o379 (F o645) Z) (F o513))) (N o143 (N o213 (N o345 (F o613) Z) (F o479)) (N o281 (F o413) (F o545)))) (N o94 (N o127 (N o197 (N o329 (F o595) Z) (F o463)) (N o263 (F o395) (F o529))) (N o163 (N o231 (N o363 (F o629) Z) (F o497)) (N o297 (F o429) (F o563))))) (N o67 (N o86 (N o119 (N o189 (N o321 (F o587) Z) (F o455)) (N o255 (N o387 (F o653) Z) (F o521))) (N o155 (N o223 (N o353 (F o621) Z) (F o487)) (N o289 (F o421) (F o555)))) (N o102 (N o135 (N o205 (N o337 (F o603) Z) (F o471)) (N o271 (F o405) (F o537))) (N o171 (N o239 (N o371 (F o637) Z) (F o505)) (N o305 (F o437) (F o571)))))))))
noncomputable def heap_46 : Params → Heap := fun P => ⟨#[(boot_o_0 P), (boot_o_1 P), (boot_o_2 P), (boot_o_3 P), (boot_o_4 P), (boot_o_5 P), (boot_o_6 P), (boot_o_7 P), (boot_o_8 P), (boot_o_9 P), (boot_o_10 P), (o43 P), (o44 P), (o45 P), (o46 P)], ⟨[], [], [], 0, [], [], false, #[], [], 0, false, false, false, 0, [2000, 10, 10], false, 0, true, [], [], 0, false⟩⟩
noncomputable def heap_661 : Params → Heap := fun P => ⟨#[(boot_o_0 P), (boot_o_1 P), (o49 P), (o604 P), (boot_o_4 P), (boot_o_5 P), (boot_o_6 P), (boot_o_7 P), (boot_o_8 P), (boot_o_9 P), (boot_o_10 P), (o43 P), (o605 P), (o45 P), (o46 P), (o52 P), (o53 P), (o54 P), (o55 P), (o56 P), (o57 P), (o58 P), (o59 P), (o60 P), (o61 P), (o62 P), (o63 P), (o64 P), (o65 P), (o66 P), (o67 P), (o68 P), (o69 P), (o70 P), (o71 P), (o72 P), (o73 P), (o74 P), (o75 P), (o82 P), (o77 P), (o78 P), (o79 P), (o83 P), (o84 P), (o85 P), (o86 P), (o87 P), (o88 P), (o89 P), (o90 P), (o91 P), (o92 P), (o93 P), (o94 P), (o95 P), (o96 P), (o97 P), (o98 P), (o99 P), (o100 P), (o101 P), (o102 P), (o103 P), (o104 P), (o105 P), (o106 P), (o107 P), (o108 P), (o109 P), (o110 P), (o112 P), (o113 P), (o114 P), (o115 P), (o116 P), (o117 P), (o118 P), (o119 P), (o120 P), (o121 P), (o122 P), (o123 P), (o124 P), (o125 P), (o126 P), (o127 P), (o128 P), (o129 P), (o130 P), (o131 P), (o132 P), (o133 P), (o134 P), (o135 P), (o136 P), (o137 P), (o138 P), (o139 P), (o140 P), (o141 P), (o142 P), (o143 P), (o144 P), (o145 P), (o150 P), (o151 P), (o152 P), (o153 P), (o154 P), (o155 P), (o156 P), (o157 P), (o158 P), (o159 P), (o160 P), (o161 P), (o162 P), (o163 P), (o164 P), (o165 P), (o166 P), (o167 P), (o168 P), (o169 P), (o170 P), (o171 P), (o172 P), (o173 P), (o174 P), (o175 P), (o176 P), (o177 P), (o178 P), (o179 P), (o180 P), (o181 P), (o182 P), (o183 P), (o184 P), (o185 P), (o188 P), (o189 P), (o190 P), (o191 P), (o192 P), (o193 P), (o194 P), (o195 P), (o196 P), (o197 P), (o198 P), (o199 P), (o200 P), (o201 P), (o202 P), (o203 P), (o204 P), (o205 P), (o206 P), (o207 P), (o208 P), (o209 P), (o210 P), (o211 P), (o212 P), (o213 P), (o214 P), (o215 P), (o218 P), (o219 P), (o220 P), (o221 P), (o222 P), (o223 P), (o224 P), (o225 P), (o226 P), (o227 P), (o228 P), (o229 P), (o230 P), (o231 P), (o232 P), (o233 P), (o234 P), (o235 P), (o236 P), (o237 P), (o238 P), (o239 P), (o240 P), (o241 P), (o242 P), (o243 P), (o244 P), (o245 P), (o246 P), (o247 P), (o248 P), (o249 P), (o250 P), (o251 P), (o252 P), (o253 P), (o254 P), (o255 P), (o256 P), (o257 P), (o258 P), (o259 P), (o260 P), (o261 P), (o262 P), (o263 P), (o264 P), (o265 P), (o266 P), (o267 P), (o268 P), (o269 P), (o270 P), (o271 P), (o272 P), (o273 P), (o276 P), (o277 P), (o278 P), (o279 P), (o280 P), (o281 P), (o282 P), (o283 P), (o284 P), (o285 P), (o286 P), (o287 P), (o288 P), (o289 P), (o290 P), (o291 P), (o292 P), (o293 P), (o294 P), (o295 P), (o296 P), (o297 P), (o298 P), (o299 P), (o300 P), (o301 P), (o302 P), (o303 P), (o304 P), (o305 P), (o306 P), (o307 P), (o308 P), (o309 P), (o310 P), (o311 P), (o312 P), (o313 P), (o314 P), (o315 P), (o316 P), (o317 P), (o318 P), (o319 P), (o320 P), (o321 P), (o322 P), (o323 P), (o324 P), (o325 P), (o326 P), (o327 P), (o328 P), (o329 P), (o330 P), (o331 P), (o332 P), (o333 P), (o334 P), (o335 P), (o336 P), (o337 P), (o338 P), (o339 P), (o340 P), (o341 P), (o342 P), (o343 P), (o344 P), (o345 P), (o346 P), (o347 P), (o348 P), (o349 P), (o350 P), (o351 P), (o352 P), (o353 P), (o354 P), (o355 P), (o356 P), (o357 P), (o358 P), (o359 P), (o362 P), (o363 P), (o364 P), (o365 P), (o366 P), (o367 P), (o368 P), (o369 P), (o370 P), (o371 P), (o372 P), (o373 P), (o374 P), (o375 P), (o376 P), (o377 P), (o378 P), (o379 P), (o380 P), (o381 P), (o382 P), (o383 P), (o384 P), (o385 P), (o386 P), (o387 P), (o388 P), (o389 P), (o390 P), (o391 P), (o392 P), (o393 P), (o394 P), (o395 P), (o396 P), (o399 P), (o400 P), (o401 P), (o402 P), (o403 P), (o404 P), (o405 P), (o406 P), (o407 P), (o408 P), (o409 P), (o410 P), (o411 P), (o412 P), (o413 P), (o414 P), (o415 P), (o416 P), (o417 P), (o418 P), (o419 P), (o420 P), (o421 P), (o422 P), (o423 P), (o424 P), (o425 P), (o426 P), (o427 P), (o428 P), (o429 P), (o430 P), (o431 P), (o432 P), (o433 P), (o434 P), (o435 P), (o436 P), (o437 P), (o438 P), (o441 P), (o442 P), (o443 P), (o444 P), (o445 P), (o446 P), (o447 P), (o448 P), (o449 P), (o450 P), (o451 P), (o452 P), (o453 P), (o454 P), (o455 P), (o456 P), (o457 P), (o458 P), (o459 P), (o460 P), (o461 P), (o462 P), (o463 P), (o464 P), (o465 P), (o466 P), (o467 P), (o468 P), (o469 P), (o470 P), (o471 P), (o472 P), (o473 P), (o474 P), (o475 P), (o476 P), (o477 P), (o478 P), (o479 P), (o480 P), (o481 P), (o482 P), (o483 P), (o484 P), (o485 P), (o486 P), (o487 P), (o488 P), (o489 P), (o490 P), (o491 P), (o492 P), (o493 P), (o496 P), (o497 P), (o498 P), (o499 P), (o500 P), (o501 P), (o502 P), (o503 P), (o504 P), (o505 P), (o506 P), (o507 P), (o508 P), (o509 P), (o510 P), (o511 P), (o512 P), (o513 P), (o514 P), (o515 P), (o516 P), (o517 P), (o518 P), (o519 P), (o520 P), (o521 P), (o522 P), (o523 P), (o524 P), (o525 P), (o526 P), (o527 P), (o528 P), (o529 P), (o530 P), (o531 P), (o532 P), (o533 P), (o534 P), (o535 P), (o536 P), (o537 P), (o538 P), (o539 P), (o540 P), (o541 P), (o542 P), (o543 P), (o544 P), (o545 P), (o546 P), (o547 P), (o548 P), (o549 P), (o550 P), (o551 P), (o554 P), (o555 P), (o556 P), (o557 P), (o558 P), (o559 P), (o560 P), (o561 P), (o562 P), (o563 P), (o564 P), (o565 P), (o566 P), (o567 P), (o568 P), (o569 P), (o570 P), (o571 P), (o572 P), (o573 P), (o574 P), (o575 P), (o576 P), (o577 P), (o578 P), (o579 P), (o580 P), (o581 P), (o582 P), (o583 P), (o584 P), (o585 P), (o586 P), (o587 P), (o588 P), (o589 P), (o590 P), (o591 P), (o592 P), (o593 P), (o594 P), (o595 P), (o596 P), (o597 P), (o598 P), (o599 P), (o600 P), (o601 P), (o602 P), (o603 P), (o606 P), (o607 P), (o608 P), (o609 P), (o610 P), (o611 P), (o612 P), (o613 P), (o614 P), (o615 P), (o616 P), (o617 P), (o618 P), (o619 P), (o620 P), (o621 P), (o622 P), (o623 P), (o624 P), (o625 P), (o626 P), (o627 P), (o628 P), (o629 P), (o630 P), (o631 P), (o632 P), (o633 P), (o634 P), (o635 P), (o636 P), (o637 P), (o638 P), (o639 P), (o640 P), (o641 P), (o642 P), (o643 P), (o644 P), (o645 P), (o646 P), (o647 P), (o648 P), (o649 P), (o650 P), (o651 P), (o652 P), (o653 P), (o654 P), (o655 P), (o656 P), (o657 P), (o658 P), (o659 P), (o660 P)], ⟨[], [], [], 0, [], [], false, #[], [], 0, false, false, false, 0, [2000, 10, 10], false, 0, true, [], [], 0, false⟩⟩
noncomputable def frag : Params → Frag := fun P => (nat_lit 2, o49 P) :: (nat_lit 3, o604 P) :: (nat_lit 15, o43 P) :: (nat_lit 17, o54 P) :: (nat_lit 18, o43 P) :: (nat_lit 20, o57 P) :: (nat_lit 21, o58 P) :: (nat_lit 22, o59 P) :: (nat_lit 29, o66 P) :: (nat_lit 30, o43 P) :: (nat_lit 32, o69 P) :: (nat_lit 33, o43 P) :: (nat_lit 35, o72 P) :: (nat_lit 36, o73 P) :: (nat_lit 37, o74 P) :: (nat_lit 38, o75 P) :: (nat_lit 39, o82 P) :: (nat_lit 40, o77 P) :: (nat_lit 43, o83 P) :: (nat_lit 50, o43 P) :: (nat_lit 51, o91 P) :: (nat_lit 52, o92 P) :: (nat_lit 55, o43 P) :: (nat_lit 57, o97 P) :: (nat_lit 58, o43 P) :: (nat_lit 60, o100 P) :: (nat_lit 61, o101 P) :: (nat_lit 62, o102 P) :: (nat_lit 63, o103 P) :: (nat_lit 64, o104 P) :: (nat_lit 65, o105 P) :: (nat_lit 66, o106 P) :: (nat_lit 67, o107 P) :: (nat_lit 68, o108 P) :: (nat_lit 69, o109 P) :: (nat_lit 70, o110 P) :: (nat_lit 71, o112 P) :: (nat_lit 72, o113 P) :: (nat_lit 73, o114 P) :: (nat_lit 74, o115 P) :: (nat_lit 75, o116 P) :: (nat_lit 76, o117 P) :: (nat_lit 77, o118 P) :: (nat_lit 78, o119 P) :: (nat_lit 79, o120 P) :: (nat_lit 80, o121 P) :: (nat_lit 81, o122 P) :: (nat_lit 82, o123 P) :: (nat_lit 83, o124 P) :: (nat_lit 84, o125 P) :: (nat_lit 85, o126 P) :: (nat_lit 86, o127 P) :: (nat_lit 87, o128 P) :: (nat_lit 88, o129 P) :: (nat_lit 89, o130 P) :: (nat_lit 90, o131 P) :: (nat_lit 91, o132 P) :: (nat_lit 92, o133 P) :: (nat_lit 93, o134 P) :: (nat_lit 94, o135 P) :: (nat_lit 95, o136 P) :: (nat_lit 96, o137 P) :: (nat_lit 97, o138 P) :: (nat_lit 98, o139 P) :: (nat_lit 99, o140 P) :: (nat_lit 100, o141 P) :: (nat_lit 101, o142 P) :: (nat_lit 102, o143 P) :: (nat_lit 103, o144 P) :: (nat_lit 104, o145 P) :: (nat_lit 112, o157 P) :: (nat_lit 113, o43 P) :: (nat_lit 115, o160 P) :: (nat_lit 116, o43 P) :: (nat_lit 118, o163 P) :: (nat_lit 119, o164 P) :: (nat_lit 120, o165 P) :: (nat_lit 121, o166 P) :: (nat_lit 122, o167 P) :: (nat_lit 123, o168 P) :: (nat_lit 124, o169 P) :: (nat_lit 127, o43 P) :: (nat_lit 129, o174 P) :: (nat_lit 130, o43 P) :: (nat_lit 132, o177 P) :: (nat_lit 133, o178 P) :: (nat_lit 134, o43 P) :: (nat_lit 136, o181 P) :: (nat_lit 137, o43 P) :: (nat_lit 139, o184 P) :: (nat_lit 140, o185 P) :: (nat_lit 148, o43 P) :: (nat_lit 150, o197 P) :: (nat_lit 151, o43 P) :: (nat_lit 153, o200 P) :: (nat_lit 154, o201 P) :: (nat_lit 155, o202 P) :: (nat_lit 156, o203 P) :: (nat_lit 157, o204 P) :: (nat_lit 158, o205 P) :: (nat_lit 159, o206 P) :: (nat_lit 162, o43 P) :: (nat_lit 164, o211 P) :: (nat_lit 165, o43 P) :: (nat_lit 167, o214 P) :: (nat_lit 168, o215 P) :: (nat_lit 176, o43 P) :: (nat_lit 178, o227 P) :: (nat_lit 179, o43 P) :: (nat_lit 181, o230 P) :: (nat_lit 182, o231 P) :: (nat_lit 183, o43 P) :: (nat_lit 185, o234 P) :: (nat_lit 186, o43 P) :: (nat_lit 188, o237 P) :: (nat_lit 189, o238 P) :: (nat_lit 190, o43 P) :: (nat_lit 192, o241 P) :: (nat_lit 193, o43 P) :: (nat_lit 195, o244 P) :: (nat_lit 196, o245 P) :: (nat_lit 197, o43 P) :: (nat_lit 199, o248 P) :: (nat_lit 200, o43 P) :: (nat_lit 202, o251 P) :: (nat_lit 203, o252 P) :: (nat_lit 204, o43 P) :: (nat_lit 206, o255 P) :: (nat_lit 207, o43 P) :: (nat_lit 209, o258 P) :: (nat_lit 210, o259 P) :: (nat_lit 211, o260 P) :: (nat_lit 212, o261 P) :: (nat_lit 213, o262 P) :: (nat_lit 214, o263 P) :: (nat_lit 215, o264 P) :: (nat_lit 218, o43 P) :: (nat_lit 220, o269 P) :: (nat_lit 221, o43 P) :: (nat_lit 223, o272 P) :: (nat_lit 224, o273 P) :: (nat_lit 225, o43 P) :: (nat_lit 227, o278 P) :: (nat_lit 228, o43 P) :: (nat_lit 230, o281 P) :: (nat_lit 231, o282 P) :: (nat_lit 232, o43 P) :: (nat_lit 234, o285 P) :: (nat_lit 235, o43 P) :: (nat_lit 237, o288 P) :: (nat_lit 238, o289 P) :: (nat_lit 239, o43 P) :: (nat_lit 241, o292 P) :: (nat_lit 242, o43 P) :: (nat_lit 244, o295 P) :: (nat_lit 245, o296 P) :: (nat_lit 246, o43 P) :: (nat_lit 248, o299 P) :: (nat_lit 249, o43 P) :: (nat_lit 251, o302 P) :: (nat_lit 252, o303 P) :: (nat_lit 253, o43 P) :: (nat_lit 255, o306 P) :: (nat_lit 256, o43 P) :: (nat_lit 258, o309 P) :: (nat_lit 259, o310 P) :: (nat_lit 260, o43 P) :: (nat_lit 262, o313 P) :: (nat_lit 263, o43 P) :: (nat_lit 265, o316 P) :: (nat_lit 266, o317 P) :: (nat_lit 267, o43 P) :: (nat_lit 269, o320 P) :: (nat_lit 270, o43 P) :: (nat_lit 272, o323 P) :: (nat_lit 273, o324 P) :: (nat_lit 274, o43 P) :: (nat_lit 276, o327 P) :: (nat_lit 277, o43 P) :: (nat_lit 279, o330 P) :: (nat_lit 280, o331 P) :: (nat_lit 281, o43 P) :: (nat_lit 283, o334 P) :: (nat_lit 284, o43 P) :: (nat_lit 286, o337 P) :: (nat_lit 287, o338 P) :: (nat_lit 288, o43 P) :: (nat_lit 290, o341 P) :: (nat_lit 291, o43 P) :: (nat_lit 293, o344 P) :: (nat_lit 294, o345 P) :: (nat_lit 295, o43 P) :: (nat_lit 297, o348 P) :: (nat_lit 298, o43 P) :: (nat_lit 300, o351 P) :: (nat_lit 301, o352 P) :: (nat_lit 302, o43 P) :: (nat_lit 304, o355 P) :: (nat_lit 305, o43 P) :: (nat_lit 307, o358 P) :: (nat_lit 308, o359 P) :: (nat_lit 309, o43 P) :: (nat_lit 311, o364 P) :: (nat_lit 312, o43 P) :: (nat_lit 314, o367 P) :: (nat_lit 315, o368 P) :: (nat_lit 316, o43 P) :: (nat_lit 318, o371 P) :: (nat_lit 319, o43 P) :: (nat_lit 321, o374 P) :: (nat_lit 322, o375 P) :: (nat_lit 323, o43 P) :: (nat_lit 325, o378 P) :: (nat_lit 326, o43 P) :: (nat_lit 328, o381 P) :: (nat_lit 329, o382 P) :: (nat_lit 330, o43 P) :: (nat_lit 332, o385 P) :: (nat_lit 333, o43 P) :: (nat_lit 335, o388 P) :: (nat_lit 336, o389 P) :: (nat_lit 337, o43 P) :: (nat_lit 339, o392 P) :: (nat_lit 340, o43 P) :: (nat_lit 342, o395 P) :: (nat_lit 343, o396 P) :: (nat_lit 351, o43 P) :: (nat_lit 353, o408 P) :: (nat_lit 354, o43 P) :: (nat_lit 356, o411 P) :: (nat_lit 357, o412 P) :: (nat_lit 358, o43 P) :: (nat_lit 360, o415 P) :: (nat_lit 361, o43 P) :: (nat_lit 363, o418 P) :: (nat_lit 364, o419 P) :: (nat_lit 365, o420 P) :: (nat_lit 366, o421 P) :: (nat_lit 367, o422 P) :: (nat_lit 368, o423 P) :: (nat_lit 369, o424 P) :: (nat_lit 372, o43 P) :: (nat_lit 375, o430 P) :: (nat_lit 376, o431 P) :: (nat_lit 377, o43 P) :: (nat_lit 379, o434 P) :: (nat_lit 380, o43 P) :: (nat_lit 382, o437 P) :: (nat_lit 383, o438 P) :: (nat_lit 391, o66 P) :: (nat_lit 392, o43 P) :: (nat_lit 394, o451 P) :: (nat_lit 395, o43 P) :: (nat_lit 397, o454 P) :: (nat_lit 398, o455 P) :: (nat_lit 399, o43 P) :: (nat_lit 402, o459 P) :: (nat_lit 403, o460 P) :: (nat_lit 404, o43 P) :: (nat_lit 407, o464 P) :: (nat_lit 408, o465 P) :: (nat_lit 409, o43 P) :: (nat_lit 412, o469 P) :: (nat_lit 413, o470 P) :: (nat_lit 414, o43 P) :: (nat_lit 415, o472 P) :: (nat_lit 416, o43 P) :: (nat_lit 418, o475 P) :: (nat_lit 419, o43 P) :: (nat_lit 421, o478 P) :: (nat_lit 422, o479 P) :: (nat_lit 423, o43 P) :: (nat_lit 425, o482 P) :: (nat_lit 426, o43 P) :: (nat_lit 428, o485 P) :: (nat_lit 429, o486 P) :: (nat_lit 430, o487 P) :: (nat_lit 431, o488 P) :: (nat_lit 432, o489 P) :: (nat_lit 433, o490 P) :: (nat_lit 434, o491 P) :: (nat_lit 437, o43 P) :: (nat_lit 439, o498 P) :: (nat_lit 440, o43 P) :: (nat_lit 442, o501 P) :: (nat_lit 443, o502 P) :: (nat_lit 451, o43 P) :: (nat_lit 453, o512 P) :: (nat_lit 454, o43 P) :: (nat_lit 456, o515 P) :: (nat_lit 457, o516 P) :: (nat_lit 458, o43 P) :: (nat_lit 460, o519 P) :: (nat_lit 461, o43 P) :: (nat_lit 463, o522 P) :: (nat_lit 464, o523 P) :: (nat_lit 465, o43 P) :: (nat_lit 467, o526 P) :: (nat_lit 468, o43 P) :: (nat_lit 470, o529 P) :: (nat_lit 471, o530 P) :: (nat_lit 472, o43 P) :: (nat_lit 474, o533 P) :: (nat_lit 475, o43 P) :: (nat_lit 477, o536 P) :: (nat_lit 478, o537 P) :: (nat_lit 479, o43 P) :: (nat_lit 481, o540 P) :: (nat_lit 482, o43 P) :: (nat_lit 484, o543 P) :: (nat_lit 485, o544 P) :: (nat_lit 486, o545 P) :: (nat_lit 487, o546 P) :: (nat_lit 488, o547 P) :: (nat_lit 489, o548 P) :: (nat_lit 490, o549 P) :: (nat_lit 493, o43 P) :: (nat_lit 495, o556 P) :: (nat_lit 496, o43 P) :: (nat_lit 498, o559 P) :: (nat_lit 499, o560 P) :: (nat_lit 507, o43 P) :: (nat_lit 509, o570 P) :: (nat_lit 510, o43 P) :: (nat_lit 512, o573 P) :: (nat_lit 513, o574 P) :: (nat_lit 514, o43 P) :: (nat_lit 516, o577 P) :: (nat_lit 517, o43 P) :: (nat_lit 519, o580 P) :: (nat_lit 520, o581 P) :: (nat_lit 521, o43 P) :: (nat_lit 523, o584 P) :: (nat_lit 524, o43 P) :: (nat_lit 526, o587 P) :: (nat_lit 527, o588 P) :: (nat_lit 528, o43 P) :: (nat_lit 530, o591 P) :: (nat_lit 531, o43 P) :: (nat_lit 533, o594 P) :: (nat_lit 534, o595 P) :: (nat_lit 535, o596 P) :: (nat_lit 536, o597 P) :: (nat_lit 537, o598 P) :: (nat_lit 538, o599 P) :: (nat_lit 539, o600 P) :: (nat_lit 542, o603 P) :: (nat_lit 543, o43 P) :: (nat_lit 545, o43 P) :: (nat_lit 546, o43 P) :: (nat_lit 548, o611 P) :: (nat_lit 549, o612 P) :: (nat_lit 550, o43 P) :: (nat_lit 553, o616 P) :: (nat_lit 554, o617 P) :: (nat_lit 555, o43 P) :: (nat_lit 557, o620 P) :: (nat_lit 558, o43 P) :: (nat_lit 560, o623 P) :: (nat_lit 561, o624 P) :: (nat_lit 562, o43 P) :: (nat_lit 564, o627 P) :: (nat_lit 565, o43 P) :: (nat_lit 567, o630 P) :: (nat_lit 568, o631 P) :: (nat_lit 569, o43 P) :: (nat_lit 572, o635 P) :: (nat_lit 573, o636 P) :: (nat_lit 574, o43 P) :: (nat_lit 576, o639 P) :: (nat_lit 577, o43 P) :: (nat_lit 579, o642 P) :: (nat_lit 580, o643 P) :: (nat_lit 581, o43 P) :: (nat_lit 583, o646 P) :: (nat_lit 584, o43 P) :: (nat_lit 586, o649 P) :: (nat_lit 587, o650 P) :: (nat_lit 588, o43 P) :: (nat_lit 591, o654 P) :: (nat_lit 592, o655 P) :: (nat_lit 593, o43 P) :: (nat_lit 596, o659 P) :: (nat_lit 597, o660 P) :: []
noncomputable def ads : List Addr := [2, 3, 15, 17, 18, 20, 21, 22, 29, 30, 32, 33, 35, 36, 37, 38, 39, 40, 43, 50, 51, 52, 55, 57, 58, 60, 61, 62, 63, 64, 65, 66, 67, 68, 69, 70, 71, 72, 73, 74, 75, 76, 77, 78, 79, 80, 81, 82, 83, 84, 85, 86, 87, 88, 89, 90, 91, 92, 93, 94, 95, 96, 97, 98, 99, 100, 101, 102, 103, 104, 112, 113, 115, 116, 118, 119, 120, 121, 122, 123, 124, 127, 129, 130, 132, 133, 134, 136, 137, 139, 140, 148, 150, 151, 153, 154, 155, 156, 157, 158, 159, 162, 164, 165, 167, 168, 176, 178, 179, 181, 182, 183, 185, 186, 188, 189, 190, 192, 193, 195, 196, 197, 199, 200, 202, 203, 204, 206, 207, 209, 210, 211, 212, 213, 214, 215, 218, 220, 221, 223, 224, 225, 227, 228, 230, 231, 232, 234, 235, 237, 238, 239, 241, 242, 244, 245, 246, 248, 249, 251, 252, 253, 255, 256, 258, 259, 260, 262, 263, 265, 266, 267, 269, 270, 272, 273, 274, 276, 277, 279, 280, 281, 283, 284, 286, 287, 288, 290, 291, 293, 294, 295, 297, 298, 300, 301, 302, 304, 305, 307, 308, 309, 311, 312, 314, 315, 316, 318, 319, 321, 322, 323, 325, 326, 328, 329, 330, 332, 333, 335, 336, 337, 339, 340, 342, 343, 351, 353, 354, 356, 357, 358, 360, 361, 363, 364, 365, 366, 367, 368, 369, 372, 375, 376, 377, 379, 380, 382, 383, 391, 392, 394, 395, 397, 398, 399, 402, 403, 404, 407, 408, 409, 412, 413, 414, 415, 416, 418, 419, 421, 422, 423, 425, 426, 428, 429, 430, 431, 432, 433, 434, 437, 439, 440, 442, 443, 451, 453, 454, 456, 457, 458, 460, 461, 463, 464, 465, 467, 468, 470, 471, 472, 474, 475, 477, 478, 479, 481, 482, 484, 485, 486, 487, 488, 489, 490, 493, 495, 496, 498, 499, 507, 509, 510, 512, 513, 514, 516, 517, 519, 520, 521, 523, 524, 526, 527, 528, 530, 531, 533, 534, 535, 536, 537, 538, 539, 542, 543, 545, 546, 548, 549, 550, 553, 554, 555, 557, 558, 560, 561, 562, 564, 565, 567, 568, 569, 572, 573, 574, 576, 577, 579, 580, 581, 583, 584, 586, 587, 588, 591, 592, 593, 596, 597]
theorem ads_ok : ∀ P, ads = (frag P).map (·.1) := fun P => by kernel_rfl
noncomputable def hook : Hook := kHook frag ads ads_ok
noncomputable def env_41 : Env := { scope := prg.main.scope, locals := mainNs, globals := mainNs, cells := [], code := .ref 13, frame := some 14 }
noncomputable def sts_49 : List Stmt := ((behindTheImports prg).drop 0).take 4
noncomputable def sts_80 : List Stmt := ((behindTheImports prg).drop 4).take 12
noncomputable def sts_111 : List Stmt := ((behindTheImports prg).drop 16).take 13
noncomputable def sts_148 : List Stmt := ((behindTheImports prg).drop 29).take 3
noncomputable def sts_186 : List Stmt := ((behindTheImports prg).drop 32).take 2
noncomputable def sts_216 : List Stmt := ((behindTheImports prg).drop 34).take 2
noncomputable def sts_274 : List Stmt := ((behindTheImports prg).drop 36).take 12
noncomputable def sts_360 : List Stmt := ((behindTheImports prg).drop 48).take 5
noncomputable def sts_397 : List Stmt := ((behindTheImports prg).drop 53).take 3
noncomputable def sts_439 : List Stmt := ((behindTheImports prg).drop 56).take 2
noncomputable def sts_494 : List Stmt := ((behindTheImports prg).drop 58).take 3
noncomputable def sts_552 : List Stmt := ((behindTheImports prg).drop 61).take 4
noncomputable def sts_604 : List Stmt := ((behindTheImports prg).drop 65).take 9
noncomputable def view : Program := { prg with main := { prg.main with body := [0, 2, 3, 4, 5, 7, 8, 9, 10, 11, 12, 13, 14, 15, 16, 17, 18, 19, 20, 21, 22, 23, 24, 25, 26, 27, 28, 29, 30, 31, 32, 33, 34, 35, 36, 37, 38, 39, 40, 41, 42, 43, 44, 45, 46, 47, 48, 49, 50, 51, 52, 53, 54, 55, 56, 58, 59, 61, 62, 64, 65, 66, 67, 68, 69, 70, 71, 72, 73].filterMap fun i => prg.main.body[i]? } }
theorem p40 : (chainsOk view && opensWell PySem.Challenge.rw_on0381_03.row.prog && (frees PySem.Challenge.rw_on0381_03.row.toRowW && PySem.Challenge.rw_on0381_03.row.within.isEmpty)) = Bool.true := by decide +kernel
theorem p41 : PySem.Challenge.rw_on0381_03.row.prog.tablesWhole = Bool.true := by decide +kernel
theorem p42 : opening prg = plainProg prg.main.scope.names := by kernel_rfl
theorem p43 : ∀ (s : Shared), fenceModules? prg s = Option.some s := fun (s : Shared) => Eq.refl (Option.some s)
theorem p47 : ∀ (w : World), (fun (os : OsState) => topGo treeTable prg w 11 (Option.some (Value.ref 6)) 12 (Shared.mk (boot_heap w.params) (Array.mk []) boot_drawn boot_toks os) (topStub prg)) = fun (os : OsState) => Option.some (Shared.mk (heap_46 w.params) (Array.mk []) (Drawn.mk 0 0 0 0) 187 os, Thread.mk (denote treeTable (Code.body (behindTheImports prg) env_41)) (Code.body (behindTheImports prg) env_41) (Pos.mk 0 0 0 0) [topFrame (Pos.mk 0 0 0 0)]) := by intro w; (try rewrite [PySem.W.Fast.te15667345088766844465]); (try rewrite [PySem.W.Fast.te14364793385576792824]); (try rewrite [PySem.W.Fast.te2368527892694137696]); (try rewrite [PySem.W.Fast.te11892475500146522536]); kernel_rfl
theorem p49 : ∀ (w : World), (fun (os : OsState) => segRun treeTable prg w 11 (Option.some (Value.ref 6)) 1 1 (Shared.mk (heap_46 w.params) (Array.mk []) (Drawn.mk 0 0 0 0) 187 os) (blockOf (behindTheImports prg) env_41 (Code.body (behindTheImports prg) env_41) (Pos.mk 0 0 0 0) [topFrame (Pos.mk 0 0 0 0)])) = fun (os : OsState) => Option.some (Flow.next, (SharedT.mk (tree_47 w.params) 15 (Life.mk [] [] [] 0 [] [] Bool.false #[] [] 0 Bool.false Bool.false Bool.false 0 [2000, 10, 10] Bool.false 0 Bool.true [] [] 0 Bool.false) (Array.mk []) (Drawn.mk 0 0 0 0) 187 os).abs, Code.body (behindTheImports prg) env_41, Pos.mk 0 0 0 0) := by intro w; (try rewrite [PySem.W.Fast.te14374325043358763698]); (try rewrite [PySem.W.Fast.te14364793385576792824]); (try rewrite [PySem.W.Fast.te2368527892694137696]); kernel_rfl
theorem p80 : ∀ (w : World), (fun (os : OsState) => segRunT treeTable prg w 11 (Option.some (Value.ref 6)) 1 277 (SharedT.mk (tree_47 w.params) 15 (Life.mk [] [] [] 0 [] [] Bool.false #[] [] 0 Bool.false Bool.false Bool.false 0 [2000, 10, 10] Bool.false 0 Bool.true [] [] 0 Bool.false) (Array.mk []) (Drawn.mk 0 0 0 0) 187 os) (piecesOf sts_49 env_41 (Code.body (behindTheImports prg) env_41) (Pos.mk 0 0 0 0) [topFrame (Pos.mk 0 0 0 0)])) = fun (os : OsState) => Option.some (Flow.next, SharedT.mk (tree_79 w.params) 43 (Life.mk [] [] [] 0 [] [] Bool.false #[] [] 0 Bool.false Bool.false Bool.false 0 [2000, 10, 10] Bool.false 0 Bool.true [] [] 0 Bool.false) (Array.mk []) (Drawn.mk 0 0 0 0) 227 os, Code.body (behindTheImports prg) env_41, Pos.mk 6 0 9 24) := by intro w; (try rewrite [PySem.W.Fast.te10110043849684766642]); (try rewrite [PySem.W.Fast.te14364793385576792824]); (try rewrite [PySem.W.Fast.te2368527892694137696]); kernel_rfl
theorem p111 : ∀ (w : World), (fun (os : OsState) => segRunT treeTable prg w 11 (Option.some (Value.ref 6)) 1 394 (SharedT.mk (tree_79 w.params) 43 (Life.mk [] [] [] 0 [] [] Bool.false #[] [] 0 Bool.false Bool.false Bool.false 0 [2000, 10, 10] Bool.false 0 Bool.true [] [] 0 Bool.false) (Array.mk []) (Drawn.mk 0 0 0 0) 227 os) (piecesOf sts_80 env_41 (Code.body (behindTheImports prg) env_41) (Pos.mk 6 0 9 24) [topFrame (Pos.mk 0 0 0 0)])) = fun (os : OsState) => Option.some (Flow.next, SharedT.mk (tree_110 w.params) 71 (Life.mk [] [] [] 0 [] [] Bool.false #[] [] 0 Bool.false Bool.false Bool.false 0 [2000, 10, 10] Bool.false 0 Bool.true [] [] 0 Bool.false) (Array.mk []) (Drawn.mk 0 0 0 0) 313 os, Code.body (behindTheImports prg) env_41, Pos.mk 31 0 31 16) := by intro w; (try rewrite [PySem.W.Fast.te10110043849684766642]); (try rewrite [PySem.W.Fast.te14364793385576792824]); (try rewrite [PySem.W.Fast.te2368527892694137696]); kernel_rfl
theorem p146 : ∀ (w : World), (fun (os : OsState) => segRunT treeTable prg (w.withFollow "special-get-raises" Bool.false) 11 (Option.some (Value.ref 6)) 1 331 (SharedT.mk (tree_110 (w.withFollow "special-get-raises" Bool.false).params) 71 (Life.mk [] [] [] 0 [] [] Bool.false #[] [] 0 Bool.false Bool.false Bool.false 0 [2000, 10, 10] Bool.false 0 Bool.true [] [] 0 Bool.false) (Array.mk []) (Drawn.mk 0 0 0 0) 313 os) (piecesOf sts_111 env_41 (Code.body (behindTheImports prg) env_41) (Pos.mk 31 0 31 16) [topFrame (Pos.mk 0 0 0 0)])) = fun (os : OsState) => Option.some (Flow.next, SharedT.mk (tree_145 (w.withFollow "special-get-raises" Bool.false).params) 105 (Life.mk [] [] [] 0 [] [] Bool.false #[] [] 0 Bool.false Bool.false Bool.false 0 [2000, 10, 10] Bool.false 0 Bool.true [] [] 0 Bool.false) (Array.mk []) (Drawn.mk 0 0 0 0) 424 os, Code.body (behindTheImports prg) env_41, Pos.mk 44 0 44 13) := by intro w; (try rewrite [PySem.W.Fast.te10110043849684766642]); (try rewrite [PySem.W.Fast.te14364793385576792824]); (try rewrite [PySem.W.Fast.te2368527892694137696]); kernel_rfl
theorem p148 : ∀ (w : World), (fun (os : OsState) => segRunT treeTable prg (w.withFollow "special-get-raises" Bool.true) 11 (Option.some (Value.ref 6)) 1 331 (SharedT.mk (tree_110 (w.withFollow "special-get-raises" Bool.true).params) 71 (Life.mk [] [] [] 0 [] [] Bool.false #[] [] 0 Bool.false Bool.false Bool.false 0 [2000, 10, 10] Bool.false 0 Bool.true [] [] 0 Bool.false) (Array.mk []) (Drawn.mk 0 0 0 0) 313 os) (piecesOf sts_111 env_41 (Code.body (behindTheImports prg) env_41) (Pos.mk 31 0 31 16) [topFrame (Pos.mk 0 0 0 0)])) = fun (os : OsState) => Option.some (Flow.next, SharedT.mk (tree_145 (w.withFollow "special-get-raises" Bool.true).params) 105 (Life.mk [] [] [] 0 [] [] Bool.false #[] [] 0 Bool.false Bool.false Bool.false 0 [2000, 10, 10] Bool.false 0 Bool.true [] [] 0 Bool.false) (Array.mk []) (Drawn.mk 0 0 0 0) 424 os, Code.body (behindTheImports prg) env_41, Pos.mk 44 0 44 13) := by intro w; (try rewrite [PySem.W.Fast.te10110043849684766642]); (try rewrite [PySem.W.Fast.te14364793385576792824]); (try rewrite [PySem.W.Fast.te2368527892694137696]); kernel_rfl
theorem p186 : ∀ (w : World), (fun (os : OsState) => segRunT treeTable prg w 11 (Option.some (Value.ref 6)) 1 294 (SharedT.mk (tree_145 w.params) 105 (Life.mk [] [] [] 0 [] [] Bool.false #[] [] 0 Bool.false Bool.false Bool.false 0 [2000, 10, 10] Bool.false 0 Bool.true [] [] 0 Bool.false) (Array.mk []) (Drawn.mk 0 0 0 0) 424 os) (piecesOf sts_148 env_41 (Code.body (behindTheImports prg) env_41) (Pos.mk 44 0 44 13) [topFrame (Pos.mk 0 0 0 0)])) = fun (os : OsState) => Option.some (Flow.next, SharedT.mk (tree_185 w.params) 141 (Life.mk [] [] [] 0 [] [] Bool.false #[] [] 0 Bool.false Bool.false Bool.false 0 [2000, 10, 10] Bool.false 0 Bool.true [] [] 0 Bool.false) (Array.mk []) (Drawn.mk 0 0 0 0) 479 os, Code.body (behindTheImports prg) env_41, Pos.mk 62 0 72 15) := by intro w; (try rewrite [PySem.W.Fast.te10110043849684766642]); (try rewrite [PySem.W.Fast.te14364793385576792824]); (try rewrite [PySem.W.Fast.te2368527892694137696]); kernel_rfl
theorem p216 : ∀ (w : World), (fun (os : OsState) => segRunT treeTable prg w 11 (Option.some (Value.ref 6)) 1 263 (SharedT.mk (tree_185 w.params) 141 (Life.mk [] [] [] 0 [] [] Bool.false #[] [] 0 Bool.false Bool.false Bool.false 0 [2000, 10, 10] Bool.false 0 Bool.true [] [] 0 Bool.false) (Array.mk []) (Drawn.mk 0 0 0 0) 479 os) (piecesOf sts_186 env_41 (Code.body (behindTheImports prg) env_41) (Pos.mk 62 0 72 15) [topFrame (Pos.mk 0 0 0 0)])) = fun (os : OsState) => Option.some (Flow.next, SharedT.mk (tree_215 w.params) 169 (Life.mk [] [] [] 0 [] [] Bool.false #[] [] 0 Bool.false Bool.false Bool.false 0 [2000, 10, 10] Bool.false 0 Bool.true [] [] 0 Bool.false) (Array.mk []) (Drawn.mk 0 0 0 0) 526 os, Code.body (behindTheImports prg) env_41, Pos.mk 80 0 90 16) := by intro w; (try rewrite [PySem.W.Fast.te10110043849684766642]); (try rewrite [PySem.W.Fast.te14364793385576792824]); (try rewrite [PySem.W.Fast.te2368527892694137696]); kernel_rfl
theorem p274 : ∀ (w : World), (fun (os : OsState) => segRunT treeTable prg w 11 (Option.some (Value.ref 6)) 1 396 (SharedT.mk (tree_215 w.params) 169 (Life.mk [] [] [] 0 [] [] Bool.false #[] [] 0 Bool.false Bool.false Bool.false 0 [2000, 10, 10] Bool.false 0 Bool.true [] [] 0 Bool.false) (Array.mk []) (Drawn.mk 0 0 0 0) 526 os) (piecesOf sts_216 env_41 (Code.body (behindTheImports prg) env_41) (Pos.mk 80 0 90 16) [topFrame (Pos.mk 0 0 0 0)])) = fun (os : OsState) => Option.some (Flow.next, SharedT.mk (tree_273 w.params) 225 (Life.mk [] [] [] 0 [] [] Bool.false #[] [] 0 Bool.false Bool.false Bool.false 0 [2000, 10, 10] Bool.false 0 Bool.true [] [] 0 Bool.false) (Array.mk []) (Drawn.mk 0 0 0 0) 610 os, Code.body (behindTheImports prg) env_41, Pos.mk 120 0 128 52) := by intro w; (try rewrite [PySem.W.Fast.te10110043849684766642]); (try rewrite [PySem.W.Fast.te14364793385576792824]); (try rewrite [PySem.W.Fast.te2368527892694137696]); kernel_rfl
theorem p360 : ∀ (w : World), (fun (os : OsState) => segRunT treeTable prg w 11 (Option.some (Value.ref 6)) 1 380 (SharedT.mk (tree_273 w.params) 225 (Life.mk [] [] [] 0 [] [] Bool.false #[] [] 0 Bool.false Bool.false Bool.false 0 [2000, 10, 10] Bool.false 0 Bool.true [] [] 0 Bool.false) (Array.mk []) (Drawn.mk 0 0 0 0) 610 os) (piecesOf sts_274 env_41 (Code.body (behindTheImports prg) env_41) (Pos.mk 120 0 128 52) [topFrame (Pos.mk 0 0 0 0)])) = fun (os : OsState) => Option.some (Flow.next, SharedT.mk (tree_359 w.params) 309 (Life.mk [] [] [] 0 [] [] Bool.false #[] [] 0 Bool.false Bool.false Bool.false 0 [2000, 10, 10] Bool.false 0 Bool.true [] [] 0 Bool.false) (Array.mk []) (Drawn.mk 0 0 0 0) 725 os, Code.body (behindTheImports prg) env_41, Pos.mk 210 0 213 85) := by intro w; (try rewrite [PySem.W.Fast.te10110043849684766642]); (try rewrite [PySem.W.Fast.te14364793385576792824]); (try rewrite [PySem.W.Fast.te2368527892694137696]); kernel_rfl
theorem p397 : ∀ (w : World), (fun (os : OsState) => segRunT treeTable prg w 11 (Option.some (Value.ref 6)) 1 167 (SharedT.mk (tree_359 w.params) 309 (Life.mk [] [] [] 0 [] [] Bool.false #[] [] 0 Bool.false Bool.false Bool.false 0 [2000, 10, 10] Bool.false 0 Bool.true [] [] 0 Bool.false) (Array.mk []) (Drawn.mk 0 0 0 0) 725 os) (piecesOf sts_360 env_41 (Code.body (behindTheImports prg) env_41) (Pos.mk 210 0 213 85) [topFrame (Pos.mk 0 0 0 0)])) = fun (os : OsState) => Option.some (Flow.next, SharedT.mk (tree_396 w.params) 344 (Life.mk [] [] [] 0 [] [] Bool.false #[] [] 0 Bool.false Bool.false Bool.false 0 [2000, 10, 10] Bool.false 0 Bool.true [] [] 0 Bool.false) (Array.mk []) (Drawn.mk 0 0 0 0) 781 os, Code.body (behindTheImports prg) env_41, Pos.mk 247 0 254 16) := by intro w; (try rewrite [PySem.W.Fast.te10110043849684766642]); (try rewrite [PySem.W.Fast.te14364793385576792824]); (try rewrite [PySem.W.Fast.te2368527892694137696]); kernel_rfl
theorem p439 : ∀ (w : World), (fun (os : OsState) => segRunT treeTable prg w 11 (Option.some (Value.ref 6)) 1 327 (SharedT.mk (tree_396 w.params) 344 (Life.mk [] [] [] 0 [] [] Bool.false #[] [] 0 Bool.false Bool.false Bool.false 0 [2000, 10, 10] Bool.false 0 Bool.true [] [] 0 Bool.false) (Array.mk []) (Drawn.mk 0 0 0 0) 781 os) (piecesOf sts_397 env_41 (Code.body (behindTheImports prg) env_41) (Pos.mk 247 0 254 16) [topFrame (Pos.mk 0 0 0 0)])) = fun (os : OsState) => Option.some (Flow.next, SharedT.mk (tree_438 w.params) 384 (Life.mk [] [] [] 0 [] [] Bool.false #[] [] 0 Bool.false Bool.false Bool.false 0 [2000, 10, 10] Bool.false 0 Bool.true [] [] 0 Bool.false) (Array.mk []) (Drawn.mk 0 0 0 0) 848 os, Code.body (behindTheImports prg) env_41, Pos.mk 277 0 294 22) := by intro w; (try rewrite [PySem.W.Fast.te10110043849684766642]); (try rewrite [PySem.W.Fast.te14364793385576792824]); (try rewrite [PySem.W.Fast.te2368527892694137696]); kernel_rfl
theorem p494 : ∀ (w : World), (fun (os : OsState) => segRunT treeTable prg w 11 (Option.some (Value.ref 6)) 1 391 (SharedT.mk (tree_438 w.params) 384 (Life.mk [] [] [] 0 [] [] Bool.false #[] [] 0 Bool.false Bool.false Bool.false 0 [2000, 10, 10] Bool.false 0 Bool.true [] [] 0 Bool.false) (Array.mk []) (Drawn.mk 0 0 0 0) 848 os) (piecesOf sts_439 env_41 (Code.body (behindTheImports prg) env_41) (Pos.mk 277 0 294 22) [topFrame (Pos.mk 0 0 0 0)])) = fun (os : OsState) => Option.some (Flow.next, SharedT.mk (tree_493 w.params) 437 (Life.mk [] [] [] 0 [] [] Bool.false #[] [] 0 Bool.false Bool.false Bool.false 0 [2000, 10, 10] Bool.false 0 Bool.true [] [] 0 Bool.false) (Array.mk []) (Drawn.mk 0 0 0 0) 920 os, Code.body (behindTheImports prg) env_41, Pos.mk 316 0 316 8) := by intro w; (try rewrite [PySem.W.Fast.te10110043849684766642]); (try rewrite [PySem.W.Fast.te14364793385576792824]); (try rewrite [PySem.W.Fast.te2368527892694137696]); kernel_rfl
theorem p552 : ∀ (w : World), (fun (os : OsState) => segRunT treeTable prg w 11 (Option.some (Value.ref 6)) 1 398 (SharedT.mk (tree_493 w.params) 437 (Life.mk [] [] [] 0 [] [] Bool.false #[] [] 0 Bool.false Bool.false Bool.false 0 [2000, 10, 10] Bool.false 0 Bool.true [] [] 0 Bool.false) (Array.mk []) (Drawn.mk 0 0 0 0) 920 os) (piecesOf sts_494 env_41 (Code.body (behindTheImports prg) env_41) (Pos.mk 316 0 316 8) [topFrame (Pos.mk 0 0 0 0)])) = fun (os : OsState) => Option.some (Flow.next, SharedT.mk (tree_551 w.params) 493 (Life.mk [] [] [] 0 [] [] Bool.false #[] [] 0 Bool.false Bool.false Bool.false 0 [2000, 10, 10] Bool.false 0 Bool.true [] [] 0 Bool.false) (Array.mk []) (Drawn.mk 0 0 0 0) 999 os, Code.body (behindTheImports prg) env_41, Pos.mk 349 0 349 8) := by intro w; (try rewrite [PySem.W.Fast.te10110043849684766642]); (try rewrite [PySem.W.Fast.te14364793385576792824]); (try rewrite [PySem.W.Fast.te2368527892694137696]); kernel_rfl
theorem p604 : ∀ (w : World), (fun (os : OsState) => segRunT treeTable prg w 11 (Option.some (Value.ref 6)) 1 382 (SharedT.mk (tree_551 w.params) 493 (Life.mk [] [] [] 0 [] [] Bool.false #[] [] 0 Bool.false Bool.false Bool.false 0 [2000, 10, 10] Bool.false 0 Bool.true [] [] 0 Bool.false) (Array.mk []) (Drawn.mk 0 0 0 0) 999 os) (piecesOf sts_552 env_41 (Code.body (behindTheImports prg) env_41) (Pos.mk 349 0 349 8) [topFrame (Pos.mk 0 0 0 0)])) = fun (os : OsState) => Option.some (Flow.next, SharedT.mk (tree_603 w.params) 543 (Life.mk [] [] [] 0 [] [] Bool.false #[] [] 0 Bool.false Bool.false Bool.false 0 [2000, 10, 10] Bool.false 0 Bool.true [] [] 0 Bool.false) (Array.mk []) (Drawn.mk 0 0 0 0) 1077 os, Code.body (behindTheImports prg) env_41, Pos.mk 383 0 383 10) := by intro w; (try rewrite [PySem.W.Fast.te10110043849684766642]); (try rewrite [PySem.W.Fast.te14364793385576792824]); (try rewrite [PySem.W.Fast.te2368527892694137696]); kernel_rfl
theorem p661 : ∀ (w : World), (fun (os : OsState) => segRunT treeTable prg w 11 (Option.some (Value.ref 6)) 1 265 (SharedT.mk (tree_603 w.params) 543 (Life.mk [] [] [] 0 [] [] Bool.false #[] [] 0 Bool.false Bool.false Bool.false 0 [2000, 10, 10] Bool.false 0 Bool.true [] [] 0 Bool.false) (Array.mk []) (Drawn.mk 0 0 0 0) 1077 os) (piecesOf sts_604 env_41 (Code.body (behindTheImports prg) env_41) (Pos.mk 383 0 383 10) [topFrame (Pos.mk 0 0 0 0)])) = fun (os : OsState) => Option.some (Flow.next, SharedT.mk (tree_660 w.params) 598 (Life.mk [] [] [] 0 [] [] Bool.false #[] [] 0 Bool.false Bool.false Bool.false 0 [2000, 10, 10] Bool.false 0 Bool.true [] [] 0 Bool.false) (Array.mk []) (Drawn.mk 0 0 0 0) 1151 os, Code.body (behindTheImports prg) env_41, Pos.mk 437 0 453 32) := by intro w; (try rewrite [PySem.W.Fast.te10110043849684766642]); (try rewrite [PySem.W.Fast.te14364793385576792824]); (try rewrite [PySem.W.Fast.te2368527892694137696]); kernel_rfl
theorem p663 : ∀ (w : World), (fun (os : OsState) => topRun treeTable prg w 11 (Option.some (Value.ref 6)) 2 (SharedT.mk (tree_660 w.params) 598 (Life.mk [] [] [] 0 [] [] Bool.false #[] [] 0 Bool.false Bool.false Bool.false 0 [2000, 10, 10] Bool.false 0 Bool.true [] [] 0 Bool.false) (Array.mk []) (Drawn.mk 0 0 0 0) 1151 os).abs (Thread.mk (doneF Flow.next) (Code.body (behindTheImports prg) env_41) (Pos.mk 437 0 453 32) [topFrame (Pos.mk 0 0 0 0)])) = fun (os : OsState) => Option.some (Shared.mk (heap_661 w.params) (Array.mk []) (Drawn.mk 0 0 0 0) 1151 os) := by intro w; (try rewrite [PySem.W.Fast.te14082659384304107361]); (try rewrite [PySem.W.Fast.te14364793385576792824]); (try rewrite [PySem.W.Fast.te2368527892694137696]); kernel_rfl
theorem p146r : ∀ (w : World), (fun (os : OsState) => segRunT treeTable prg w 11 (Option.some (Value.ref 6)) 1 331 (SharedT.mk (tree_110 w.params) 71 (Life.mk [] [] [] 0 [] [] Bool.false #[] [] 0 Bool.false Bool.false Bool.false 0 [2000, 10, 10] Bool.false 0 Bool.true [] [] 0 Bool.false) (Array.mk []) (Drawn.mk 0 0 0 0) 313 os) (piecesOf sts_111 env_41 (Code.body (behindTheImports prg) env_41) (Pos.mk 31 0 31 16) [topFrame (Pos.mk 0 0 0 0)])) = fun (os : OsState) => Option.some (Flow.next, SharedT.mk (tree_145 w.params) 105 (Life.mk [] [] [] 0 [] [] Bool.false #[] [] 0 Bool.false Bool.false Bool.false 0 [2000, 10, 10] Bool.false 0 Bool.true [] [] 0 Bool.false) (Array.mk []) (Drawn.mk 0 0 0 0) 424 os, Code.body (behindTheImports prg) env_41, Pos.mk 44 0 44 13) := byRow2 "special-get-raises" (P := fun (w : World) => (fun (os : OsState) => segRunT treeTable prg w 11 (Option.some (Value.ref 6)) 1 331 (SharedT.mk (tree_110 w.params) 71 (Life.mk [] [] [] 0 [] [] Bool.false #[] [] 0 Bool.false Bool.false Bool.false 0 [2000, 10, 10] Bool.false 0 Bool.true [] [] 0 Bool.false) (Array.mk []) (Drawn.mk 0 0 0 0) 313 os) (piecesOf sts_111 env_41 (Code.body (behindTheImports prg) env_41) (Pos.mk 31 0 31 16) [topFrame (Pos.mk 0 0 0 0)])) = fun (os : OsState) => Option.some (Flow.next, SharedT.mk (tree_145 w.params) 105 (Life.mk [] [] [] 0 [] [] Bool.false #[] [] 0 Bool.false Bool.false Bool.false 0 [2000, 10, 10] Bool.false 0 Bool.true [] [] 0 Bool.false) (Array.mk []) (Drawn.mk 0 0 0 0) 424 os, Code.body (behindTheImports prg) env_41, Pos.mk 44 0 44 13)) p146 p148
theorem body_eq : PySem.W.behindTheImports prg = sts_49 ++ (sts_80 ++ (sts_111 ++ (sts_148 ++ (sts_186 ++ (sts_216 ++ (sts_274 ++ (sts_360 ++ (sts_397 ++ (sts_439 ++ (sts_494 ++ (sts_552 ++ (sts_604 ++ ([]))))))))))))) := by kernel_rfl
theorem p664 : ∀ (w : World) (os : OsState), topRun treeTable prg w 11 (Option.some (Value.ref 6)) (Nat.add 12 (Nat.add 1 (Nat.add 277 (Nat.add 394 (Nat.add 331 (Nat.add 294 (Nat.add 263 (Nat.add 396 (Nat.add 380 (Nat.add 167 (Nat.add 327 (Nat.add 391 (Nat.add 398 (Nat.add 382 (Nat.add 265 2))))))))))))))) (Shared.mk (boot_heap w.params) (Array.mk []) boot_drawn boot_toks os) (topStub prg) = Option.some (Shared.mk (heap_661 w.params) (Array.mk []) (Drawn.mk 0 0 0 0) 1151 os) := by
 intro w os
 have r13 := piece_nil (env := env_41) (congrFun (p663 w) os)
 have r12 := piece_app (l := sts_604) (rest := []) (segRun_of (congrFun (p661 w) os)) r13
 have r11 := piece_app (l := sts_552) (rest := sts_604 ++ ([])) (segRun_of (congrFun (p604 w) os)) r12
 have r10 := piece_app (l := sts_494) (rest := sts_552 ++ (sts_604 ++ ([]))) (segRun_of (congrFun (p552 w) os)) r11
 have r9 := piece_app (l := sts_439) (rest := sts_494 ++ (sts_552 ++ (sts_604 ++ ([])))) (segRun_of (congrFun (p494 w) os)) r10
 have r8 := piece_app (l := sts_397) (rest := sts_439 ++ (sts_494 ++ (sts_552 ++ (sts_604 ++ ([]))))) (segRun_of (congrFun (p439 w) os)) r9
 have r7 := piece_app (l := sts_360) (rest := sts_397 ++ (sts_439 ++ (sts_494 ++ (sts_552 ++ (sts_604 ++ ([])))))) (segRun_of (congrFun (p397 w) os)) r8
 have r6 := piece_app (l := sts_274) (rest := sts_360 ++ (sts_397 ++ (sts_439 ++ (sts_494 ++ (sts_552 ++ (sts_604 ++ ([]))))))) (segRun_of (congrFun (p360 w) os)) r7
 have r5 := piece_app (l := sts_216) (rest := sts_274 ++ (sts_360 ++ (sts_397 ++ (sts_439 ++ (sts_494 ++ (sts_552 ++ (sts_604 ++ ([])))))))) (segRun_of (congrFun (p274 w) os)) r6
 have r4 := piece_app (l := sts_186) (rest := sts_216 ++ (sts_274 ++ (sts_360 ++ (sts_397 ++ (sts_439 ++ (sts_494 ++ (sts_552 ++ (sts_604 ++ ([]))))))))) (segRun_of (congrFun (p216 w) os)) r5
 have r3 := piece_app (l := sts_148) (rest := sts_186 ++ (sts_216 ++ (sts_274 ++ (sts_360 ++ (sts_397 ++ (sts_439 ++ (sts_494 ++ (sts_552 ++ (sts_604 ++ ([])))))))))) (segRun_of (congrFun (p186 w) os)) r4
 have r2 := piece_app (l := sts_111) (rest := sts_148 ++ (sts_186 ++ (sts_216 ++ (sts_274 ++ (sts_360 ++ (sts_397 ++ (sts_439 ++ (sts_494 ++ (sts_552 ++ (sts_604 ++ ([]))))))))))) (segRun_of (congrFun (p146r w) os)) r3
 have r1 := piece_app (l := sts_80) (rest := sts_111 ++ (sts_148 ++ (sts_186 ++ (sts_216 ++ (sts_274 ++ (sts_360 ++ (sts_397 ++ (sts_439 ++ (sts_494 ++ (sts_552 ++ (sts_604 ++ ([])))))))))))) (segRun_of (congrFun (p111 w) os)) r2
 have r0 := piece_app (l := sts_49) (rest := sts_80 ++ (sts_111 ++ (sts_148 ++ (sts_186 ++ (sts_216 ++ (sts_274 ++ (sts_360 ++ (sts_397 ++ (sts_439 ++ (sts_494 ++ (sts_552 ++ (sts_604 ++ ([]))))))))))))) (segRun_of (congrFun (p80 w) os)) r1
 rw [← body_eq] at r0
 exact go_top (congrFun (p47 w) os) (piece_block (congrFun (p49 w) os) r0)
theorem p666 : ∀ (w : World), ((boot_heap w.params).isNs mainGlobals && (Array.mk (α := PySem.GenState) []).size == 0, (boot_heap w.params).objs.size, (boot_heap w.params).nsMap mainGlobals (Str.ofString "__annotations__")) = (Bool.true, 11, Option.some (Value.ref 6)) := by intro w; (try rewrite [PySem.W.Fast.te8920871248978507458]); kernel_rfl
theorem p668 : ∀ (w : World), (fun (os : OsState) => staticsOk (importedModules prg.main.body) (boot_heap w.params) (heap_661 w.params) && namesBound prg (heap_661 w.params) && gensDone (Shared.mk (heap_661 w.params) (Array.mk []) (Drawn.mk 0 0 0 0) 1151 os) && laidKept (boot_heap w.params) (heap_661 w.params)) = fun (os : OsState) => Bool.true := by intro w; (try rewrite [PySem.W.Fast.te5923862056798008813]); (try rewrite [PySem.W.Fast.te2368527892694137696]); kernel_rfl
theorem p670 : ∀ (w : World), (fun (os : OsState) => PyProof.Rows.seen (List.map (fun (x : DefRec) => x.name) (PyProof.Rows.recsOf view)) (PyProof.Rows.ownsOf view) [] (Shared.mk (Shared.mk (heap_661 w.params) (Array.mk []) (Drawn.mk 0 0 0 0) 1151 os).heap #[] (Shared.mk (heap_661 w.params) (Array.mk []) (Drawn.mk 0 0 0 0) 1151 os).drawn (Shared.mk (heap_661 w.params) (Array.mk []) (Drawn.mk 0 0 0 0) 1151 os).toks (Shared.mk (heap_661 w.params) (Array.mk []) (Drawn.mk 0 0 0 0) 1151 os).os)) = fun (os : OsState) => PyProof.Rows.expectedOf view := by intro w; (try rewrite [PySem.W.Fast.te5160383126252970620]); (try rewrite [PySem.W.R.mapR_eq]); (try rewrite [PySem.W.Fast.te3399658132070893891]); (try rewrite [PySem.W.Fast.te5991557255702980513]); kernel_rfl
theorem p672 : ∀ (w : World), (fun (os : OsState) => (Shared.mk (heap_661 w.params) (Array.mk []) (Drawn.mk 0 0 0 0) 1151 os).heap.bltView) = fun (os : OsState) => bltViewBooted := by intro w; kernel_rfl
theorem p674 : ∀ (w : World), (fun (os : OsState) => (Shared.mk (heap_661 w.params) (Array.mk []) (Drawn.mk 0 0 0 0) 1151 os).heap.keysOk (looseW view [Str.ofString "UniError", Str.ofString "LINE_JAMO", Str.ofString "LineBreaks", Str.ofString "_law_signs"]) (List.map (fun (x : DefRec) => x.name) (PyProof.Rows.recsOf view)) (List.map (fun (x : Str × PyData) => x.fst) (PyProof.Rows.litsOf view)) (List.map (fun (x : ClsRec) => x.name) (PyProof.Rows.clssOf view (looseW view [Str.ofString "UniError", Str.ofString "LINE_JAMO", Str.ofString "LineBreaks", Str.ofString "_law_signs"]))) && (Shared.mk (heap_661 w.params) (Array.mk []) (Drawn.mk 0 0 0 0) 1151 os).heap.accountedOkI (importedModules prg.main.body) && (Shared.mk (heap_661 w.params) (Array.mk []) (Drawn.mk 0 0 0 0) 1151 os).heap.isNs mainGlobals && (Shared.mk (heap_661 w.params) (Array.mk []) (Drawn.mk 0 0 0 0) 1151 os).heap.isNs builtinsNs && PyProof.Rows.tablesOk view (Shared.mk (heap_661 w.params) (Array.mk []) (Drawn.mk 0 0 0 0) 1151 os).heap && (fun (s : Shared) => xlAt view [] s && recOk PySem.Challenge.rw_on0381_03.row.records s) (Shared.mk (heap_661 w.params) (Array.mk []) (Drawn.mk 0 0 0 0) 1151 os) && if Bool.true = Bool.true then (Shared.mk (heap_661 w.params) (Array.mk []) (Drawn.mk 0 0 0 0) 1151 os).gens.size == 0 else !leftWithCleanup (Shared.mk (heap_661 w.params) (Array.mk []) (Drawn.mk 0 0 0 0) 1151 os).gens) = fun (os : OsState) => Bool.true := by intro w; (try rewrite [PySem.W.Fast.te10880121769531294198]); (try rewrite [PySem.W.Fast.te821141287760084731]); (try rewrite [PySem.W.R.mapR_eq]); (try rewrite [PySem.W.Fast.te3399658132070893891]); (try rewrite [PySem.W.Fast.te7409074990110511671]); (try rewrite [PySem.W.Fast.te13664370479719496447]); (try rewrite [PySem.W.Fast.te14722251495701143533]); (try rewrite [PySem.W.Fast.te5923862056798008813]); (try rewrite [PySem.W.Fast.te2368527892694137696]); (try rewrite [PySem.W.Fast.te10994771534591457954]); kernel_rfl
theorem p676 : ∀ (w : World), (fun (os : OsState) => PyProof.Rows.tabsOk view (Shared.mk (heap_661 w.params) (Array.mk []) (Drawn.mk 0 0 0 0) 1151 os)) = fun (os : OsState) => Bool.true := by intro w; (try rewrite [PySem.W.Fast.te479339242167458305]); kernel_rfl
theorem p678 : ∀ (w : World), (fun (os : OsState) => pinSeenD view (PyProof.Rows.drecsOf view) (Shared.mk (heap_661 w.params) (Array.mk []) (Drawn.mk 0 0 0 0) 1151 os)) = fun (os : OsState) => pinGoodD (PyProof.Rows.drecsOf view) := by intro w; (try rewrite [PySem.W.Fast.te16090120013241838585]); (try rewrite [PySem.W.Fast.te3247288618530077131]); kernel_rfl
theorem p680 : ∀ (w : World), (fun (os : OsState) => PyProof.Rows.plainSeenE view (looseW view [Str.ofString "UniError", Str.ofString "LINE_JAMO", Str.ofString "LineBreaks", Str.ofString "_law_signs"]) (Shared.mk (heap_661 w.params) (Array.mk []) (Drawn.mk 0 0 0 0) 1151 os)) = fun (os : OsState) => PyProof.Rows.plainGoodE view (looseW view [Str.ofString "UniError", Str.ofString "LINE_JAMO", Str.ofString "LineBreaks", Str.ofString "_law_signs"]) := by intro w; (try rewrite [PySem.W.Fast.te2386780881361962483]); (try rewrite [PySem.W.Fast.te821141287760084731]); kernel_rfl
theorem p682 : ∀ (w : World), (fun (os : OsState) => PyProof.Rows.plainSeenD view [Str.ofString "UniError", Str.ofString "LINE_JAMO", Str.ofString "LineBreaks", Str.ofString "_law_signs"] (Shared.mk (heap_661 w.params) (Array.mk []) (Drawn.mk 0 0 0 0) 1151 os)) = fun (os : OsState) => PyProof.Rows.plainGoodD view [Str.ofString "UniError", Str.ofString "LINE_JAMO", Str.ofString "LineBreaks", Str.ofString "_law_signs"] := by intro w; (try rewrite [PySem.W.Fast.te11698064438423848299]); kernel_rfl
theorem p684 : ∀ (w : World), (fun (os : OsState) => wideSeen view (Shared.mk (heap_661 w.params) (Array.mk []) (Drawn.mk 0 0 0 0) 1151 os)) = fun (os : OsState) => wideGood view := by intro w; (try rewrite [PySem.W.Fast.te7317090234206586261]); kernel_rfl
theorem p686 : ∀ (w : World), (fun (os : OsState) => clsSeenW view [Str.ofString "UniError", Str.ofString "LINE_JAMO", Str.ofString "LineBreaks", Str.ofString "_law_signs"] (Shared.mk (heap_661 w.params) (Array.mk []) (Drawn.mk 0 0 0 0) 1151 os)) = fun (os : OsState) => clsGoodW view [Str.ofString "UniError", Str.ofString "LINE_JAMO", Str.ofString "LineBreaks", Str.ofString "_law_signs"] := by intro w; (try rewrite [PySem.W.Fast.te7369524293546568484]); kernel_rfl
theorem p687 : ∀ (w : World) (os : OsState), (wideSeen view (Shared.mk (heap_661 w.params) (Array.mk []) (Drawn.mk 0 0 0 0) 1151 os), clsSeenW view [Str.ofString "UniError", Str.ofString "LINE_JAMO", Str.ofString "LineBreaks", Str.ofString "_law_signs"] (Shared.mk (heap_661 w.params) (Array.mk []) (Drawn.mk 0 0 0 0) 1151 os)) = (wideGood view, clsGoodW view [Str.ofString "UniError", Str.ofString "LINE_JAMO", Str.ofString "LineBreaks", Str.ofString "_law_signs"]) := fun (w : World) (os : OsState) => looks_pair ((fun (w : World) (os : OsState) => congrFun (p684 w) os) w os) ((fun (w : World) (os : OsState) => congrFun (p686 w) os) w os)
theorem p688 : ∀ (w : World) (os : OsState), (PyProof.Rows.plainSeenD view [Str.ofString "UniError", Str.ofString "LINE_JAMO", Str.ofString "LineBreaks", Str.ofString "_law_signs"] (Shared.mk (heap_661 w.params) (Array.mk []) (Drawn.mk 0 0 0 0) 1151 os), wideSeen view (Shared.mk (heap_661 w.params) (Array.mk []) (Drawn.mk 0 0 0 0) 1151 os), clsSeenW view [Str.ofString "UniError", Str.ofString "LINE_JAMO", Str.ofString "LineBreaks", Str.ofString "_law_signs"] (Shared.mk (heap_661 w.params) (Array.mk []) (Drawn.mk 0 0 0 0) 1151 os)) = (PyProof.Rows.plainGoodD view [Str.ofString "UniError", Str.ofString "LINE_JAMO", Str.ofString "LineBreaks", Str.ofString "_law_signs"], wideGood view, clsGoodW view [Str.ofString "UniError", Str.ofString "LINE_JAMO", Str.ofString "LineBreaks", Str.ofString "_law_signs"]) := fun (w : World) (os : OsState) => looks_pair ((fun (w : World) (os : OsState) => congrFun (p682 w) os) w os) (p687 w os)
theorem p689 : ∀ (w : World) (os : OsState), (PyProof.Rows.plainSeenE view (looseW view [Str.ofString "UniError", Str.ofString "LINE_JAMO", Str.ofString "LineBreaks", Str.ofString "_law_signs"]) (Shared.mk (heap_661 w.params) (Array.mk []) (Drawn.mk 0 0 0 0) 1151 os), PyProof.Rows.plainSeenD view [Str.ofString "UniError", Str.ofString "LINE_JAMO", Str.ofString "LineBreaks", Str.ofString "_law_signs"] (Shared.mk (heap_661 w.params) (Array.mk []) (Drawn.mk 0 0 0 0) 1151 os), wideSeen view (Shared.mk (heap_661 w.params) (Array.mk []) (Drawn.mk 0 0 0 0) 1151 os), clsSeenW view [Str.ofString "UniError", Str.ofString "LINE_JAMO", Str.ofString "LineBreaks", Str.ofString "_law_signs"] (Shared.mk (heap_661 w.params) (Array.mk []) (Drawn.mk 0 0 0 0) 1151 os)) = (PyProof.Rows.plainGoodE view (looseW view [Str.ofString "UniError", Str.ofString "LINE_JAMO", Str.ofString "LineBreaks", Str.ofString "_law_signs"]), PyProof.Rows.plainGoodD view [Str.ofString "UniError", Str.ofString "LINE_JAMO", Str.ofString "LineBreaks", Str.ofString "_law_signs"], wideGood view, clsGoodW view [Str.ofString "UniError", Str.ofString "LINE_JAMO", Str.ofString "LineBreaks", Str.ofString "_law_signs"]) := fun (w : World) (os : OsState) => looks_pair ((fun (w : World) (os : OsState) => congrFun (p680 w) os) w os) (p688 w os)
theorem p690 : ∀ (w : World) (os : OsState), (pinSeenD view (PyProof.Rows.drecsOf view) (Shared.mk (heap_661 w.params) (Array.mk []) (Drawn.mk 0 0 0 0) 1151 os), PyProof.Rows.plainSeenE view (looseW view [Str.ofString "UniError", Str.ofString "LINE_JAMO", Str.ofString "LineBreaks", Str.ofString "_law_signs"]) (Shared.mk (heap_661 w.params) (Array.mk []) (Drawn.mk 0 0 0 0) 1151 os), PyProof.Rows.plainSeenD view [Str.ofString "UniError", Str.ofString "LINE_JAMO", Str.ofString "LineBreaks", Str.ofString "_law_signs"] (Shared.mk (heap_661 w.params) (Array.mk []) (Drawn.mk 0 0 0 0) 1151 os), wideSeen view (Shared.mk (heap_661 w.params) (Array.mk []) (Drawn.mk 0 0 0 0) 1151 os), clsSeenW view [Str.ofString "UniError", Str.ofString "LINE_JAMO", Str.ofString "LineBreaks", Str.ofString "_law_signs"] (Shared.mk (heap_661 w.params) (Array.mk []) (Drawn.mk 0 0 0 0) 1151 os)) = (pinGoodD (PyProof.Rows.drecsOf view), PyProof.Rows.plainGoodE view (looseW view [Str.ofString "UniError", Str.ofString "LINE_JAMO", Str.ofString "LineBreaks", Str.ofString "_law_signs"]), PyProof.Rows.plainGoodD view [Str.ofString "UniError", Str.ofString "LINE_JAMO", Str.ofString "LineBreaks", Str.ofString "_law_signs"], wideGood view, clsGoodW view [Str.ofString "UniError", Str.ofString "LINE_JAMO", Str.ofString "LineBreaks", Str.ofString "_law_signs"]) := fun (w : World) (os : OsState) => looks_pair ((fun (w : World) (os : OsState) => congrFun (p678 w) os) w os) (p689 w os)
theorem p691 : ∀ (w : World) (os : OsState), (PyProof.Rows.tabsOk view (Shared.mk (heap_661 w.params) (Array.mk []) (Drawn.mk 0 0 0 0) 1151 os), pinSeenD view (PyProof.Rows.drecsOf view) (Shared.mk (heap_661 w.params) (Array.mk []) (Drawn.mk 0 0 0 0) 1151 os), PyProof.Rows.plainSeenE view (looseW view [Str.ofString "UniError", Str.ofString "LINE_JAMO", Str.ofString "LineBreaks", Str.ofString "_law_signs"]) (Shared.mk (heap_661 w.params) (Array.mk []) (Drawn.mk 0 0 0 0) 1151 os), PyProof.Rows.plainSeenD view [Str.ofString "UniError", Str.ofString "LINE_JAMO", Str.ofString "LineBreaks", Str.ofString "_law_signs"] (Shared.mk (heap_661 w.params) (Array.mk []) (Drawn.mk 0 0 0 0) 1151 os), wideSeen view (Shared.mk (heap_661 w.params) (Array.mk []) (Drawn.mk 0 0 0 0) 1151 os), clsSeenW view [Str.ofString "UniError", Str.ofString "LINE_JAMO", Str.ofString "LineBreaks", Str.ofString "_law_signs"] (Shared.mk (heap_661 w.params) (Array.mk []) (Drawn.mk 0 0 0 0) 1151 os)) = (Bool.true, pinGoodD (PyProof.Rows.drecsOf view), PyProof.Rows.plainGoodE view (looseW view [Str.ofString "UniError", Str.ofString "LINE_JAMO", Str.ofString "LineBreaks", Str.ofString "_law_signs"]), PyProof.Rows.plainGoodD view [Str.ofString "UniError", Str.ofString "LINE_JAMO", Str.ofString "LineBreaks", Str.ofString "_law_signs"], wideGood view, clsGoodW view [Str.ofString "UniError", Str.ofString "LINE_JAMO", Str.ofString "LineBreaks", Str.ofString "_law_signs"]) := fun (w : World) (os : OsState) => looks_pair ((fun (w : World) (os : OsState) => congrFun (p676 w) os) w os) (p690 w os)
theorem p692 : ∀ (w : World) (os : OsState), ((Shared.mk (heap_661 w.params) (Array.mk []) (Drawn.mk 0 0 0 0) 1151 os).heap.keysOk (looseW view [Str.ofString "UniError", Str.ofString "LINE_JAMO", Str.ofString "LineBreaks", Str.ofString "_law_signs"]) (List.map (fun (x : DefRec) => x.name) (PyProof.Rows.recsOf view)) (List.map (fun (x : Str × PyData) => x.fst) (PyProof.Rows.litsOf view)) (List.map (fun (x : ClsRec) => x.name) (PyProof.Rows.clssOf view (looseW view [Str.ofString "UniError", Str.ofString "LINE_JAMO", Str.ofString "LineBreaks", Str.ofString "_law_signs"]))) && (Shared.mk (heap_661 w.params) (Array.mk []) (Drawn.mk 0 0 0 0) 1151 os).heap.accountedOkI (importedModules prg.main.body) && (Shared.mk (heap_661 w.params) (Array.mk []) (Drawn.mk 0 0 0 0) 1151 os).heap.isNs mainGlobals && (Shared.mk (heap_661 w.params) (Array.mk []) (Drawn.mk 0 0 0 0) 1151 os).heap.isNs builtinsNs && PyProof.Rows.tablesOk view (Shared.mk (heap_661 w.params) (Array.mk []) (Drawn.mk 0 0 0 0) 1151 os).heap && (fun (s : Shared) => xlAt view [] s && recOk PySem.Challenge.rw_on0381_03.row.records s) (Shared.mk (heap_661 w.params) (Array.mk []) (Drawn.mk 0 0 0 0) 1151 os) && if Bool.true = Bool.true then (Shared.mk (heap_661 w.params) (Array.mk []) (Drawn.mk 0 0 0 0) 1151 os).gens.size == 0 else !leftWithCleanup (Shared.mk (heap_661 w.params) (Array.mk []) (Drawn.mk 0 0 0 0) 1151 os).gens, PyProof.Rows.tabsOk view (Shared.mk (heap_661 w.params) (Array.mk []) (Drawn.mk 0 0 0 0) 1151 os), pinSeenD view (PyProof.Rows.drecsOf view) (Shared.mk (heap_661 w.params) (Array.mk []) (Drawn.mk 0 0 0 0) 1151 os), PyProof.Rows.plainSeenE view (looseW view [Str.ofString "UniError", Str.ofString "LINE_JAMO", Str.ofString "LineBreaks", Str.ofString "_law_signs"]) (Shared.mk (heap_661 w.params) (Array.mk []) (Drawn.mk 0 0 0 0) 1151 os), PyProof.Rows.plainSeenD view [Str.ofString "UniError", Str.ofString "LINE_JAMO", Str.ofString "LineBreaks", Str.ofString "_law_signs"] (Shared.mk (heap_661 w.params) (Array.mk []) (Drawn.mk 0 0 0 0) 1151 os), wideSeen view (Shared.mk (heap_661 w.params) (Array.mk []) (Drawn.mk 0 0 0 0) 1151 os), clsSeenW view [Str.ofString "UniError", Str.ofString "LINE_JAMO", Str.ofString "LineBreaks", Str.ofString "_law_signs"] (Shared.mk (heap_661 w.params) (Array.mk []) (Drawn.mk 0 0 0 0) 1151 os)) = (Bool.true, Bool.true, pinGoodD (PyProof.Rows.drecsOf view), PyProof.Rows.plainGoodE view (looseW view [Str.ofString "UniError", Str.ofString "LINE_JAMO", Str.ofString "LineBreaks", Str.ofString "_law_signs"]), PyProof.Rows.plainGoodD view [Str.ofString "UniError", Str.ofString "LINE_JAMO", Str.ofString "LineBreaks", Str.ofString "_law_signs"], wideGood view, clsGoodW view [Str.ofString "UniError", Str.ofString "LINE_JAMO", Str.ofString "LineBreaks", Str.ofString "_law_signs"]) := fun (w : World) (os : OsState) => looks_pair ((fun (w : World) (os : OsState) => congrFun (p674 w) os) w os) (p691 w os)
theorem p693 : ∀ (w : World) (os : OsState), ((Shared.mk (heap_661 w.params) (Array.mk []) (Drawn.mk 0 0 0 0) 1151 os).heap.bltView, (Shared.mk (heap_661 w.params) (Array.mk []) (Drawn.mk 0 0 0 0) 1151 os).heap.keysOk (looseW view [Str.ofString "UniError", Str.ofString "LINE_JAMO", Str.ofString "LineBreaks", Str.ofString "_law_signs"]) (List.map (fun (x : DefRec) => x.name) (PyProof.Rows.recsOf view)) (List.map (fun (x : Str × PyData) => x.fst) (PyProof.Rows.litsOf view)) (List.map (fun (x : ClsRec) => x.name) (PyProof.Rows.clssOf view (looseW view [Str.ofString "UniError", Str.ofString "LINE_JAMO", Str.ofString "LineBreaks", Str.ofString "_law_signs"]))) && (Shared.mk (heap_661 w.params) (Array.mk []) (Drawn.mk 0 0 0 0) 1151 os).heap.accountedOkI (importedModules prg.main.body) && (Shared.mk (heap_661 w.params) (Array.mk []) (Drawn.mk 0 0 0 0) 1151 os).heap.isNs mainGlobals && (Shared.mk (heap_661 w.params) (Array.mk []) (Drawn.mk 0 0 0 0) 1151 os).heap.isNs builtinsNs && PyProof.Rows.tablesOk view (Shared.mk (heap_661 w.params) (Array.mk []) (Drawn.mk 0 0 0 0) 1151 os).heap && (fun (s : Shared) => xlAt view [] s && recOk PySem.Challenge.rw_on0381_03.row.records s) (Shared.mk (heap_661 w.params) (Array.mk []) (Drawn.mk 0 0 0 0) 1151 os) && if Bool.true = Bool.true then (Shared.mk (heap_661 w.params) (Array.mk []) (Drawn.mk 0 0 0 0) 1151 os).gens.size == 0 else !leftWithCleanup (Shared.mk (heap_661 w.params) (Array.mk []) (Drawn.mk 0 0 0 0) 1151 os).gens, PyProof.Rows.tabsOk view (Shared.mk (heap_661 w.params) (Array.mk []) (Drawn.mk 0 0 0 0) 1151 os), pinSeenD view (PyProof.Rows.drecsOf view) (Shared.mk (heap_661 w.params) (Array.mk []) (Drawn.mk 0 0 0 0) 1151 os), PyProof.Rows.plainSeenE view (looseW view [Str.ofString "UniError", Str.ofString "LINE_JAMO", Str.ofString "LineBreaks", Str.ofString "_law_signs"]) (Shared.mk (heap_661 w.params) (Array.mk []) (Drawn.mk 0 0 0 0) 1151 os), PyProof.Rows.plainSeenD view [Str.ofString "UniError", Str.ofString "LINE_JAMO", Str.ofString "LineBreaks", Str.ofString "_law_signs"] (Shared.mk (heap_661 w.params) (Array.mk []) (Drawn.mk 0 0 0 0) 1151 os), wideSeen view (Shared.mk (heap_661 w.params) (Array.mk []) (Drawn.mk 0 0 0 0) 1151 os), clsSeenW view [Str.ofString "UniError", Str.ofString "LINE_JAMO", Str.ofString "LineBreaks", Str.ofString "_law_signs"] (Shared.mk (heap_661 w.params) (Array.mk []) (Drawn.mk 0 0 0 0) 1151 os)) = (bltViewBooted, Bool.true, Bool.true, pinGoodD (PyProof.Rows.drecsOf view), PyProof.Rows.plainGoodE view (looseW view [Str.ofString "UniError", Str.ofString "LINE_JAMO", Str.ofString "LineBreaks", Str.ofString "_law_signs"]), PyProof.Rows.plainGoodD view [Str.ofString "UniError", Str.ofString "LINE_JAMO", Str.ofString "LineBreaks", Str.ofString "_law_signs"], wideGood view, clsGoodW view [Str.ofString "UniError", Str.ofString "LINE_JAMO", Str.ofString "LineBreaks", Str.ofString "_law_signs"]) := fun (w : World) (os : OsState) => looks_pair ((fun (w : World) (os : OsState) => congrFun (p672 w) os) w os) (p692 w os)
theorem p694 : ∀ (w : World) (os : OsState), openSeen view [Str.ofString "UniError", Str.ofString "LINE_JAMO", Str.ofString "LineBreaks", Str.ofString "_law_signs"] (importedModules prg.main.body) (fun (s : Shared) => xlAt view [] s && recOk PySem.Challenge.rw_on0381_03.row.records s) Bool.true (Shared.mk (heap_661 w.params) (Array.mk []) (Drawn.mk 0 0 0 0) 1151 os) = openGood view [Str.ofString "UniError", Str.ofString "LINE_JAMO", Str.ofString "LineBreaks", Str.ofString "_law_signs"] := fun (w : World) (os : OsState) => looks_pair ((fun (w : World) (os : OsState) => congrFun (p670 w) os) w os) (p693 w os)
theorem p696 : ∀ (w : World), (fun (os : OsState) => hook.obs (Shared.mk (heap_661 w.params) (Array.mk []) (Drawn.mk 0 0 0 0) 1151 os)) = fun (os : OsState) => hook.val w := by intro w; kernel_rfl
theorem p697 : ∀ (w : World) (os : OsState), (openSeen view [Str.ofString "UniError", Str.ofString "LINE_JAMO", Str.ofString "LineBreaks", Str.ofString "_law_signs"] (importedModules prg.main.body) (fun (s : Shared) => xlAt view [] s && recOk PySem.Challenge.rw_on0381_03.row.records s) Bool.true (Shared.mk (heap_661 w.params) (Array.mk []) (Drawn.mk 0 0 0 0) 1151 os), hook.obs (Shared.mk (heap_661 w.params) (Array.mk []) (Drawn.mk 0 0 0 0) 1151 os)) = (openGood view [Str.ofString "UniError", Str.ofString "LINE_JAMO", Str.ofString "LineBreaks", Str.ofString "_law_signs"], hook.val w) := fun (w : World) (os : OsState) => looks_pair (p694 w os) ((fun (w : World) (os : OsState) => congrFun (p696 w) os) w os)
theorem p698 : ∀ (w : World) (os : OsState), (staticsOk (importedModules prg.main.body) (boot_heap w.params) (heap_661 w.params) && namesBound prg (heap_661 w.params) && gensDone (Shared.mk (heap_661 w.params) (Array.mk []) (Drawn.mk 0 0 0 0) 1151 os) && laidKept (boot_heap w.params) (heap_661 w.params), openSeen view [Str.ofString "UniError", Str.ofString "LINE_JAMO", Str.ofString "LineBreaks", Str.ofString "_law_signs"] (importedModules prg.main.body) (fun (s : Shared) => xlAt view [] s && recOk PySem.Challenge.rw_on0381_03.row.records s) Bool.true (Shared.mk (heap_661 w.params) (Array.mk []) (Drawn.mk 0 0 0 0) 1151 os), hook.obs (Shared.mk (heap_661 w.params) (Array.mk []) (Drawn.mk 0 0 0 0) 1151 os)) = (Bool.true, openGood view [Str.ofString "UniError", Str.ofString "LINE_JAMO", Str.ofString "LineBreaks", Str.ofString "_law_signs"], hook.val w) := fun (w : World) (os : OsState) => looks_pair ((fun (w : World) (os : OsState) => congrFun (p668 w) os) w os) (p697 w os)
theorem p699 : PySem.Challenge.rw_on0381_03.row.claim.pre [WData.list []] = Bool.true := by decide +kernel
theorem p700 : (WData.layableAll [WData.list []] && PySem.Challenge.rw_on0381_03.row.returnsAt [WData.list []]) = Bool.true := by decide +kernel
theorem left : LeftO PySem.Challenge.rw_on0381_03.row.toRowW.1 view [Str.ofString "UniError", Str.ofString "LINE_JAMO", Str.ofString "LineBreaks", Str.ofString "_law_signs"] (fun s => xlAt view [] s && recOk PySem.Challenge.rw_on0381_03.row.records s) hook.obs hook.val 8630 :=
 LeftO.of_pieces (boot_open p42 (by decide) p43) p666 p664 (by decide) fun w => funext fun os => p698 w os
end H
set_option tactic.hygienic false
theorem fill_all : ∀ P, H.frag P = H.frag P ∧ PySem.Challenge.rw_on0381_03 = PySem.Challenge.rw_on0381_03 := by
 k_fill
 exact fun P => ⟨rfl, rfl⟩
noncomputable abbrev Lo := List Str × Addr × List Int
noncomputable abbrev mkG (w : World) (mg mb : Str → Option Value) (lo : Lo) : Gd := ⟨PySem.Challenge.pw_on0381_03, w, H.frag w.params, H.view, lo.1, mg, mb, lo.2.1, lo.2.2⟩
local macro_rules | `(tactic| ktr_unf) => `(tactic| (dsimp only [mkG]; k_is))
section
variable {w : World} {mg mb : Str → Option Value} {lo : Lo}
theorem gp_LineHow_strictness {n : Nat} {H : Hp} {x dx : Addr} {l : List (D × D)} {d : D} (h1 : H x = some (.ins 122 dx)) (h2 : H dx = some (.dct l)) (hl : sget (Str.ofString "strictness") l = some d) (hd : ∀ id, d ≠ .bi id := by intro _ e; cases e) : GetP (mkG w mg mb lo) n H (.ref x) (Str.ofString "strictness") d := GetP.own h1 h2 hl (by ktr_unf) (by ktr_unf) (by ktr_unf) (by ktr_unf) hd
theorem sa_LineHow_strictness {n : Nat} {H : Hp} {x dx : Addr} {l : List (D × D)} {d : D} {Q : Hp → Prop} (h1 : H x = some (.ins 122 dx)) (h2 : H dx = some (.dct l)) (hz : l.length ≤ 900) (q : Q (H.set dx (.dct (sput (Str.ofString "strictness") d l)))) : SetA (mkG w mg mb lo) n H (.ref x) (Str.ofString "strictness") d Q := SetA.own h1 h2 (by ktr_unf) (by ktr_unf) (by ktr_unf) (by ktr_unf) q hz
theorem gp_LineHow_keep_all {n : Nat} {H : Hp} {x dx : Addr} {l : List (D × D)} {d : D} (h1 : H x = some (.ins 122 dx)) (h2 : H dx = some (.dct l)) (hl : sget (Str.ofString "keep_all") l = some d) (hd : ∀ id, d ≠ .bi id := by intro _ e; cases e) : GetP (mkG w mg mb lo) n H (.ref x) (Str.ofString "keep_all") d := GetP.own h1 h2 hl (by ktr_unf) (by ktr_unf) (by ktr_unf) (by ktr_unf) hd
theorem sa_LineHow_keep_all {n : Nat} {H : Hp} {x dx : Addr} {l : List (D × D)} {d : D} {Q : Hp → Prop} (h1 : H x = some (.ins 122 dx)) (h2 : H dx = some (.dct l)) (hz : l.length ≤ 900) (q : Q (H.set dx (.dct (sput (Str.ofString "keep_all") d l)))) : SetA (mkG w mg mb lo) n H (.ref x) (Str.ofString "keep_all") d Q := SetA.own h1 h2 (by ktr_unf) (by ktr_unf) (by ktr_unf) (by ktr_unf) q hz
theorem gp_LineHow_numbers {n : Nat} {H : Hp} {x dx : Addr} {l : List (D × D)} {d : D} (h1 : H x = some (.ins 122 dx)) (h2 : H dx = some (.dct l)) (hl : sget (Str.ofString "numbers") l = some d) (hd : ∀ id, d ≠ .bi id := by intro _ e; cases e) : GetP (mkG w mg mb lo) n H (.ref x) (Str.ofString "numbers") d := GetP.own h1 h2 hl (by ktr_unf) (by ktr_unf) (by ktr_unf) (by ktr_unf) hd
theorem sa_LineHow_numbers {n : Nat} {H : Hp} {x dx : Addr} {l : List (D × D)} {d : D} {Q : Hp → Prop} (h1 : H x = some (.ins 122 dx)) (h2 : H dx = some (.dct l)) (hz : l.length ≤ 900) (q : Q (H.set dx (.dct (sput (Str.ofString "numbers") d l)))) : SetA (mkG w mg mb lo) n H (.ref x) (Str.ofString "numbers") d Q := SetA.own h1 h2 (by ktr_unf) (by ktr_unf) (by ktr_unf) (by ktr_unf) q hz
theorem gp_LineUnit_word {n : Nat} {H : Hp} {x dx : Addr} {l : List (D × D)} {d : D} (h1 : H x = some (.ins 157 dx)) (h2 : H dx = some (.dct l)) (hl : sget (Str.ofString "word") l = some d) (hd : ∀ id, d ≠ .bi id := by intro _ e; cases e) : GetP (mkG w mg mb lo) n H (.ref x) (Str.ofString "word") d := GetP.own h1 h2 hl (by ktr_unf) (by ktr_unf) (by ktr_unf) (by ktr_unf) hd
theorem sa_LineUnit_word {n : Nat} {H : Hp} {x dx : Addr} {l : List (D × D)} {d : D} {Q : Hp → Prop} (h1 : H x = some (.ins 157 dx)) (h2 : H dx = some (.dct l)) (hz : l.length ≤ 900) (q : Q (H.set dx (.dct (sput (Str.ofString "word") d l)))) : SetA (mkG w mg mb lo) n H (.ref x) (Str.ofString "word") d Q := SetA.own h1 h2 (by ktr_unf) (by ktr_unf) (by ktr_unf) (by ktr_unf) q hz
theorem gp_LineUnit_code {n : Nat} {H : Hp} {x dx : Addr} {l : List (D × D)} {d : D} (h1 : H x = some (.ins 157 dx)) (h2 : H dx = some (.dct l)) (hl : sget (Str.ofString "code") l = some d) (hd : ∀ id, d ≠ .bi id := by intro _ e; cases e) : GetP (mkG w mg mb lo) n H (.ref x) (Str.ofString "code") d := GetP.own h1 h2 hl (by ktr_unf) (by ktr_unf) (by ktr_unf) (by ktr_unf) hd
theorem sa_LineUnit_code {n : Nat} {H : Hp} {x dx : Addr} {l : List (D × D)} {d : D} {Q : Hp → Prop} (h1 : H x = some (.ins 157 dx)) (h2 : H dx = some (.dct l)) (hz : l.length ≤ 900) (q : Q (H.set dx (.dct (sput (Str.ofString "code") d l)))) : SetA (mkG w mg mb lo) n H (.ref x) (Str.ofString "code") d Q := SetA.own h1 h2 (by ktr_unf) (by ktr_unf) (by ktr_unf) (by ktr_unf) q hz
theorem gp_LineUnit_at {n : Nat} {H : Hp} {x dx : Addr} {l : List (D × D)} {d : D} (h1 : H x = some (.ins 157 dx)) (h2 : H dx = some (.dct l)) (hl : sget (Str.ofString "at") l = some d) (hd : ∀ id, d ≠ .bi id := by intro _ e; cases e) : GetP (mkG w mg mb lo) n H (.ref x) (Str.ofString "at") d := GetP.own h1 h2 hl (by ktr_unf) (by ktr_unf) (by ktr_unf) (by ktr_unf) hd
theorem sa_LineUnit_at {n : Nat} {H : Hp} {x dx : Addr} {l : List (D × D)} {d : D} {Q : Hp → Prop} (h1 : H x = some (.ins 157 dx)) (h2 : H dx = some (.dct l)) (hz : l.length ≤ 900) (q : Q (H.set dx (.dct (sput (Str.ofString "at") d l)))) : SetA (mkG w mg mb lo) n H (.ref x) (Str.ofString "at") d Q := SetA.own h1 h2 (by ktr_unf) (by ktr_unf) (by ktr_unf) (by ktr_unf) q hz
theorem gp_LineUnit_is_joined {n : Nat} {H : Hp} {x dx : Addr} {l : List (D × D)} {d : D} (h1 : H x = some (.ins 157 dx)) (h2 : H dx = some (.dct l)) (hl : sget (Str.ofString "is_joined") l = some d) (hd : ∀ id, d ≠ .bi id := by intro _ e; cases e) : GetP (mkG w mg mb lo) n H (.ref x) (Str.ofString "is_joined") d := GetP.own h1 h2 hl (by ktr_unf) (by ktr_unf) (by ktr_unf) (by ktr_unf) hd
theorem sa_LineUnit_is_joined {n : Nat} {H : Hp} {x dx : Addr} {l : List (D × D)} {d : D} {Q : Hp → Prop} (h1 : H x = some (.ins 157 dx)) (h2 : H dx = some (.dct l)) (hz : l.length ≤ 900) (q : Q (H.set dx (.dct (sput (Str.ofString "is_joined") d l)))) : SetA (mkG w mg mb lo) n H (.ref x) (Str.ofString "is_joined") d Q := SetA.own h1 h2 (by ktr_unf) (by ktr_unf) (by ktr_unf) (by ktr_unf) q hz
theorem gp_LineView_data {n : Nat} {H : Hp} {x dx : Addr} {l : List (D × D)} {d : D} (h1 : H x = some (.ins 213 dx)) (h2 : H dx = some (.dct l)) (hl : sget (Str.ofString "data") l = some d) (hd : ∀ id, d ≠ .bi id := by intro _ e; cases e) : GetP (mkG w mg mb lo) n H (.ref x) (Str.ofString "data") d := GetP.own h1 h2 hl (by ktr_unf) (by ktr_unf) (by ktr_unf) (by ktr_unf) hd
theorem sa_LineView_data {n : Nat} {H : Hp} {x dx : Addr} {l : List (D × D)} {d : D} {Q : Hp → Prop} (h1 : H x = some (.ins 213 dx)) (h2 : H dx = some (.dct l)) (hz : l.length ≤ 900) (q : Q (H.set dx (.dct (sput (Str.ofString "data") d l)))) : SetA (mkG w mg mb lo) n H (.ref x) (Str.ofString "data") d Q := SetA.own h1 h2 (by ktr_unf) (by ktr_unf) (by ktr_unf) (by ktr_unf) q hz
theorem gp_LineView_how {n : Nat} {H : Hp} {x dx : Addr} {l : List (D × D)} {d : D} (h1 : H x = some (.ins 213 dx)) (h2 : H dx = some (.dct l)) (hl : sget (Str.ofString "how") l = some d) (hd : ∀ id, d ≠ .bi id := by intro _ e; cases e) : GetP (mkG w mg mb lo) n H (.ref x) (Str.ofString "how") d := GetP.own h1 h2 hl (by ktr_unf) (by ktr_unf) (by ktr_unf) (by ktr_unf) hd
theorem sa_LineView_how {n : Nat} {H : Hp} {x dx : Addr} {l : List (D × D)} {d : D} {Q : Hp → Prop} (h1 : H x = some (.ins 213 dx)) (h2 : H dx = some (.dct l)) (hz : l.length ≤ 900) (q : Q (H.set dx (.dct (sput (Str.ofString "how") d l)))) : SetA (mkG w mg mb lo) n H (.ref x) (Str.ofString "how") d Q := SetA.own h1 h2 (by ktr_unf) (by ktr_unf) (by ktr_unf) (by ktr_unf) q hz
theorem gp_LineView_units {n : Nat} {H : Hp} {x dx : Addr} {l : List (D × D)} {d : D} (h1 : H x = some (.ins 213 dx)) (h2 : H dx = some (.dct l)) (hl : sget (Str.ofString "units") l = some d) (hd : ∀ id, d ≠ .bi id := by intro _ e; cases e) : GetP (mkG w mg mb lo) n H (.ref x) (Str.ofString "units") d := GetP.own h1 h2 hl (by ktr_unf) (by ktr_unf) (by ktr_unf) (by ktr_unf) hd
theorem sa_LineView_units {n : Nat} {H : Hp} {x dx : Addr} {l : List (D × D)} {d : D} {Q : Hp → Prop} (h1 : H x = some (.ins 213 dx)) (h2 : H dx = some (.dct l)) (hz : l.length ≤ 900) (q : Q (H.set dx (.dct (sput (Str.ofString "units") d l)))) : SetA (mkG w mg mb lo) n H (.ref x) (Str.ofString "units") d Q := SetA.own h1 h2 (by ktr_unf) (by ktr_unf) (by ktr_unf) (by ktr_unf) q hz
theorem gp_LineView_solid {n : Nat} {H : Hp} {x dx : Addr} {l : List (D × D)} {d : D} (h1 : H x = some (.ins 213 dx)) (h2 : H dx = some (.dct l)) (hl : sget (Str.ofString "solid") l = some d) (hd : ∀ id, d ≠ .bi id := by intro _ e; cases e) : GetP (mkG w mg mb lo) n H (.ref x) (Str.ofString "solid") d := GetP.own h1 h2 hl (by ktr_unf) (by ktr_unf) (by ktr_unf) (by ktr_unf) hd
theorem sa_LineView_solid {n : Nat} {H : Hp} {x dx : Addr} {l : List (D × D)} {d : D} {Q : Hp → Prop} (h1 : H x = some (.ins 213 dx)) (h2 : H dx = some (.dct l)) (hz : l.length ≤ 900) (q : Q (H.set dx (.dct (sput (Str.ofString "solid") d l)))) : SetA (mkG w mg mb lo) n H (.ref x) (Str.ofString "solid") d Q := SetA.own h1 h2 (by ktr_unf) (by ktr_unf) (by ktr_unf) (by ktr_unf) q hz
theorem gp_LineView_regional {n : Nat} {H : Hp} {x dx : Addr} {l : List (D × D)} {d : D} (h1 : H x = some (.ins 213 dx)) (h2 : H dx = some (.dct l)) (hl : sget (Str.ofString "regional") l = some d) (hd : ∀ id, d ≠ .bi id := by intro _ e; cases e) : GetP (mkG w mg mb lo) n H (.ref x) (Str.ofString "regional") d := GetP.own h1 h2 hl (by ktr_unf) (by ktr_unf) (by ktr_unf) (by ktr_unf) hd
theorem sa_LineView_regional {n : Nat} {H : Hp} {x dx : Addr} {l : List (D × D)} {d : D} {Q : Hp → Prop} (h1 : H x = some (.ins 213 dx)) (h2 : H dx = some (.dct l)) (hz : l.length ≤ 900) (q : Q (H.set dx (.dct (sput (Str.ofString "regional") d l)))) : SetA (mkG w mg mb lo) n H (.ref x) (Str.ofString "regional") d Q := SetA.own h1 h2 (by ktr_unf) (by ktr_unf) (by ktr_unf) (by ktr_unf) q hz
theorem gp_LineView_numeric {n : Nat} {H : Hp} {x dx : Addr} {l : List (D × D)} {d : D} (h1 : H x = some (.ins 213 dx)) (h2 : H dx = some (.dct l)) (hl : sget (Str.ofString "numeric") l = some d) (hd : ∀ id, d ≠ .bi id := by intro _ e; cases e) : GetP (mkG w mg mb lo) n H (.ref x) (Str.ofString "numeric") d := GetP.own h1 h2 hl (by ktr_unf) (by ktr_unf) (by ktr_unf) (by ktr_unf) hd
theorem sa_LineView_numeric {n : Nat} {H : Hp} {x dx : Addr} {l : List (D × D)} {d : D} {Q : Hp → Prop} (h1 : H x = some (.ins 213 dx)) (h2 : H dx = some (.dct l)) (hz : l.length ≤ 900) (q : Q (H.set dx (.dct (sput (Str.ofString "numeric") d l)))) : SetA (mkG w mg mb lo) n H (.ref x) (Str.ofString "numeric") d Q := SetA.own h1 h2 (by ktr_unf) (by ktr_unf) (by ktr_unf) (by ktr_unf) q hz
theorem gp_LineBreaks_data {n : Nat} {H : Hp} {x dx : Addr} {l : List (D × D)} {d : D} (h1 : H x = some (.ins 432 dx)) (h2 : H dx = some (.dct l)) (hl : sget (Str.ofString "data") l = some d) (hd : ∀ id, d ≠ .bi id := by intro _ e; cases e) : GetP (mkG w mg mb lo) n H (.ref x) (Str.ofString "data") d := GetP.own h1 h2 hl (by ktr_unf) (by ktr_unf) (by ktr_unf) (by ktr_unf) hd
theorem sa_LineBreaks_data {n : Nat} {H : Hp} {x dx : Addr} {l : List (D × D)} {d : D} {Q : Hp → Prop} (h1 : H x = some (.ins 432 dx)) (h2 : H dx = some (.dct l)) (hz : l.length ≤ 900) (q : Q (H.set dx (.dct (sput (Str.ofString "data") d l)))) : SetA (mkG w mg mb lo) n H (.ref x) (Str.ofString "data") d Q := SetA.own h1 h2 (by ktr_unf) (by ktr_unf) (by ktr_unf) (by ktr_unf) q hz
theorem gp_LineBreaks_how {n : Nat} {H : Hp} {x dx : Addr} {l : List (D × D)} {d : D} (h1 : H x = some (.ins 432 dx)) (h2 : H dx = some (.dct l)) (hl : sget (Str.ofString "how") l = some d) (hd : ∀ id, d ≠ .bi id := by intro _ e; cases e) : GetP (mkG w mg mb lo) n H (.ref x) (Str.ofString "how") d := GetP.own h1 h2 hl (by ktr_unf) (by ktr_unf) (by ktr_unf) (by ktr_unf) hd
theorem sa_LineBreaks_how {n : Nat} {H : Hp} {x dx : Addr} {l : List (D × D)} {d : D} {Q : Hp → Prop} (h1 : H x = some (.ins 432 dx)) (h2 : H dx = some (.dct l)) (hz : l.length ≤ 900) (q : Q (H.set dx (.dct (sput (Str.ofString "how") d l)))) : SetA (mkG w mg mb lo) n H (.ref x) (Str.ofString "how") d Q := SetA.own h1 h2 (by ktr_unf) (by ktr_unf) (by ktr_unf) (by ktr_unf) q hz
theorem sa_RangeMap_default {n : Nat} {H : Hp} {x dx : Addr} {l : List (D × D)} {d : D} {Q : Hp → Prop} (h1 : H x = some (.ins 488 dx)) (h2 : H dx = some (.dct l)) (hz : l.length ≤ 900) (q : Q (H.set dx (.dct (sput (Str.ofString "default") d l)))) : SetA (mkG w mg mb lo) n H (.ref x) (Str.ofString "default") d Q := SetA.own h1 h2 (by ktr_unf) (by ktr_unf) (by ktr_unf) (by ktr_unf) q hz
theorem gp_RangeMap_starts {n : Nat} {H : Hp} {x dx : Addr} {l : List (D × D)} {d : D} (h1 : H x = some (.ins 488 dx)) (h2 : H dx = some (.dct l)) (hl : sget (Str.ofString "starts") l = some d) (hd : ∀ id, d ≠ .bi id := by intro _ e; cases e) : GetP (mkG w mg mb lo) n H (.ref x) (Str.ofString "starts") d := GetP.own h1 h2 hl (by ktr_unf) (by ktr_unf) (by ktr_unf) (by ktr_unf) hd
theorem sa_RangeMap_starts {n : Nat} {H : Hp} {x dx : Addr} {l : List (D × D)} {d : D} {Q : Hp → Prop} (h1 : H x = some (.ins 488 dx)) (h2 : H dx = some (.dct l)) (hz : l.length ≤ 900) (q : Q (H.set dx (.dct (sput (Str.ofString "starts") d l)))) : SetA (mkG w mg mb lo) n H (.ref x) (Str.ofString "starts") d Q := SetA.own h1 h2 (by ktr_unf) (by ktr_unf) (by ktr_unf) (by ktr_unf) q hz
theorem gp_RangeMap_values {n : Nat} {H : Hp} {x dx : Addr} {l : List (D × D)} {d : D} (h1 : H x = some (.ins 488 dx)) (h2 : H dx = some (.dct l)) (hl : sget (Str.ofString "values") l = some d) (hd : ∀ id, d ≠ .bi id := by intro _ e; cases e) : GetP (mkG w mg mb lo) n H (.ref x) (Str.ofString "values") d := GetP.own h1 h2 hl (by ktr_unf) (by ktr_unf) (by ktr_unf) (by ktr_unf) hd
theorem sa_RangeMap_values {n : Nat} {H : Hp} {x dx : Addr} {l : List (D × D)} {d : D} {Q : Hp → Prop} (h1 : H x = some (.ins 488 dx)) (h2 : H dx = some (.dct l)) (hz : l.length ≤ 900) (q : Q (H.set dx (.dct (sput (Str.ofString "values") d l)))) : SetA (mkG w mg mb lo) n H (.ref x) (Str.ofString "values") d Q := SetA.own h1 h2 (by ktr_unf) (by ktr_unf) (by ktr_unf) (by ktr_unf) q hz
theorem gp_Data_defaults {n : Nat} {H : Hp} {x dx : Addr} {l : List (D × D)} {d : D} (h1 : H x = some (.ins 537 dx)) (h2 : H dx = some (.dct l)) (hl : sget (Str.ofString "defaults") l = some d) (hd : ∀ id, d ≠ .bi id := by intro _ e; cases e) : GetP (mkG w mg mb lo) n H (.ref x) (Str.ofString "defaults") d := GetP.own h1 h2 hl (by ktr_unf) (by ktr_unf) (by ktr_unf) (by ktr_unf) hd
theorem sa_Data_defaults {n : Nat} {H : Hp} {x dx : Addr} {l : List (D × D)} {d : D} {Q : Hp → Prop} (h1 : H x = some (.ins 537 dx)) (h2 : H dx = some (.dct l)) (hz : l.length ≤ 900) (q : Q (H.set dx (.dct (sput (Str.ofString "defaults") d l)))) : SetA (mkG w mg mb lo) n H (.ref x) (Str.ofString "defaults") d Q := SetA.own h1 h2 (by ktr_unf) (by ktr_unf) (by ktr_unf) (by ktr_unf) q hz
theorem gp_Data_maps {n : Nat} {H : Hp} {x dx : Addr} {l : List (D × D)} {d : D} (h1 : H x = some (.ins 537 dx)) (h2 : H dx = some (.dct l)) (hl : sget (Str.ofString "maps") l = some d) (hd : ∀ id, d ≠ .bi id := by intro _ e; cases e) : GetP (mkG w mg mb lo) n H (.ref x) (Str.ofString "maps") d := GetP.own h1 h2 hl (by ktr_unf) (by ktr_unf) (by ktr_unf) (by ktr_unf) hd
theorem sa_Data_maps {n : Nat} {H : Hp} {x dx : Addr} {l : List (D × D)} {d : D} {Q : Hp → Prop} (h1 : H x = some (.ins 537 dx)) (h2 : H dx = some (.dct l)) (hz : l.length ≤ 900) (q : Q (H.set dx (.dct (sput (Str.ofString "maps") d l)))) : SetA (mkG w mg mb lo) n H (.ref x) (Str.ofString "maps") d Q := SetA.own h1 h2 (by ktr_unf) (by ktr_unf) (by ktr_unf) (by ktr_unf) q hz
theorem sa_Data_properties {n : Nat} {H : Hp} {x dx : Addr} {l : List (D × D)} {d : D} {Q : Hp → Prop} (h1 : H x = some (.ins 537 dx)) (h2 : H dx = some (.dct l)) (hz : l.length ≤ 900) (q : Q (H.set dx (.dct (sput (Str.ofString "properties") d l)))) : SetA (mkG w mg mb lo) n H (.ref x) (Str.ofString "properties") d Q := SetA.own h1 h2 (by ktr_unf) (by ktr_unf) (by ktr_unf) (by ktr_unf) q hz
theorem sa_Data_words {n : Nat} {H : Hp} {x dx : Addr} {l : List (D × D)} {d : D} {Q : Hp → Prop} (h1 : H x = some (.ins 537 dx)) (h2 : H dx = some (.dct l)) (hz : l.length ≤ 900) (q : Q (H.set dx (.dct (sput (Str.ofString "words") d l)))) : SetA (mkG w mg mb lo) n H (.ref x) (Str.ofString "words") d Q := SetA.own h1 h2 (by ktr_unf) (by ktr_unf) (by ktr_unf) (by ktr_unf) q hz
theorem gp_LineMeasure_sums {n : Nat} {H : Hp} {x dx : Addr} {l : List (D × D)} {d : D} (h1 : H x = some (.ins 367 dx)) (h2 : H dx = some (.dct l)) (hl : sget (Str.ofString "sums") l = some d) (hd : ∀ id, d ≠ .bi id := by intro _ e; cases e) : GetP (mkG w mg mb lo) n H (.ref x) (Str.ofString "sums") d := GetP.own h1 h2 hl (by ktr_unf) (by ktr_unf) (by ktr_unf) (by ktr_unf) hd
theorem sa_LineMeasure_sums {n : Nat} {H : Hp} {x dx : Addr} {l : List (D × D)} {d : D} {Q : Hp → Prop} (h1 : H x = some (.ins 367 dx)) (h2 : H dx = some (.dct l)) (hz : l.length ≤ 900) (q : Q (H.set dx (.dct (sput (Str.ofString "sums") d l)))) : SetA (mkG w mg mb lo) n H (.ref x) (Str.ofString "sums") d Q := SetA.own h1 h2 (by ktr_unf) (by ktr_unf) (by ktr_unf) (by ktr_unf) q hz
theorem gp_LineMeasure_ends {n : Nat} {H : Hp} {x dx : Addr} {l : List (D × D)} {d : D} (h1 : H x = some (.ins 367 dx)) (h2 : H dx = some (.dct l)) (hl : sget (Str.ofString "ends") l = some d) (hd : ∀ id, d ≠ .bi id := by intro _ e; cases e) : GetP (mkG w mg mb lo) n H (.ref x) (Str.ofString "ends") d := GetP.own h1 h2 hl (by ktr_unf) (by ktr_unf) (by ktr_unf) (by ktr_unf) hd
theorem sa_LineMeasure_ends {n : Nat} {H : Hp} {x dx : Addr} {l : List (D × D)} {d : D} {Q : Hp → Prop} (h1 : H x = some (.ins 367 dx)) (h2 : H dx = some (.dct l)) (hz : l.length ≤ 900) (q : Q (H.set dx (.dct (sput (Str.ofString "ends") d l)))) : SetA (mkG w mg mb lo) n H (.ref x) (Str.ofString "ends") d Q := SetA.own h1 h2 (by ktr_unf) (by ktr_unf) (by ktr_unf) (by ktr_unf) q hz
theorem me_LineView_word : plainGet (mkG w mg mb lo).K 213 (Str.ofString "word") = true ∧ findIn (mkG w mg mb lo).K (.ref 213) (Str.ofString "word") = some (some (.ref 189)) ∧ isFn (mkG w mg mb lo).K (.ref 189) = true ∧ keepIn (mkG w mg mb lo).K (.ref 189) = true := ⟨by ktr_unf, by ktr_unf, by ktr_unf, by ktr_unf⟩
theorem me_LineView_solid_word : plainGet (mkG w mg mb lo).K 213 (Str.ofString "solid_word") = true ∧ findIn (mkG w mg mb lo).K (.ref 213) (Str.ofString "solid_word") = some (some (.ref 196)) ∧ isFn (mkG w mg mb lo).K (.ref 196) = true ∧ keepIn (mkG w mg mb lo).K (.ref 196) = true := ⟨by ktr_unf, by ktr_unf, by ktr_unf, by ktr_unf⟩
theorem me_LineView_is_quote : plainGet (mkG w mg mb lo).K 213 (Str.ofString "is_quote") = true ∧ findIn (mkG w mg mb lo).K (.ref 213) (Str.ofString "is_quote") = some (some (.ref 203)) ∧ isFn (mkG w mg mb lo).K (.ref 203) = true ∧ keepIn (mkG w mg mb lo).K (.ref 203) = true := ⟨by ktr_unf, by ktr_unf, by ktr_unf, by ktr_unf⟩
theorem me_LineView_is_narrow : plainGet (mkG w mg mb lo).K 213 (Str.ofString "is_narrow") = true ∧ findIn (mkG w mg mb lo).K (.ref 213) (Str.ofString "is_narrow") = some (some (.ref 210)) ∧ isFn (mkG w mg mb lo).K (.ref 210) = true ∧ keepIn (mkG w mg mb lo).K (.ref 210) = true := ⟨by ktr_unf, by ktr_unf, by ktr_unf, by ktr_unf⟩
theorem me_LineBreaks_opportunities : plainGet (mkG w mg mb lo).K 432 (Str.ofString "opportunities") = true ∧ findIn (mkG w mg mb lo).K (.ref 432) (Str.ofString "opportunities") = some (some (.ref 403)) ∧ isFn (mkG w mg mb lo).K (.ref 403) = true ∧ keepIn (mkG w mg mb lo).K (.ref 403) = true := ⟨by ktr_unf, by ktr_unf, by ktr_unf, by ktr_unf⟩
theorem me_LineBreaks_reasons : plainGet (mkG w mg mb lo).K 432 (Str.ofString "reasons") = true ∧ findIn (mkG w mg mb lo).K (.ref 432) (Str.ofString "reasons") = some (some (.ref 408)) ∧ isFn (mkG w mg mb lo).K (.ref 408) = true ∧ keepIn (mkG w mg mb lo).K (.ref 408) = true := ⟨by ktr_unf, by ktr_unf, by ktr_unf, by ktr_unf⟩
theorem me_LineBreaks_measure : plainGet (mkG w mg mb lo).K 432 (Str.ofString "measure") = true ∧ findIn (mkG w mg mb lo).K (.ref 432) (Str.ofString "measure") = some (some (.ref 413)) ∧ isFn (mkG w mg mb lo).K (.ref 413) = true ∧ keepIn (mkG w mg mb lo).K (.ref 413) = true := ⟨by ktr_unf, by ktr_unf, by ktr_unf, by ktr_unf⟩
theorem me_LineBreaks_even_lines : plainGet (mkG w mg mb lo).K 432 (Str.ofString "even_lines") = true ∧ findIn (mkG w mg mb lo).K (.ref 432) (Str.ofString "even_lines") = some (some (.ref 429)) ∧ isFn (mkG w mg mb lo).K (.ref 429) = true ∧ keepIn (mkG w mg mb lo).K (.ref 429) = true := ⟨by ktr_unf, by ktr_unf, by ktr_unf, by ktr_unf⟩
theorem me_RangeMap_get : plainGet (mkG w mg mb lo).K 488 (Str.ofString "get") = true ∧ findIn (mkG w mg mb lo).K (.ref 488) (Str.ofString "get") = some (some (.ref 464)) ∧ isFn (mkG w mg mb lo).K (.ref 464) = true ∧ keepIn (mkG w mg mb lo).K (.ref 464) = true := ⟨by ktr_unf, by ktr_unf, by ktr_unf, by ktr_unf⟩
theorem me_RangeMap_put : plainGet (mkG w mg mb lo).K 488 (Str.ofString "put") = true ∧ findIn (mkG w mg mb lo).K (.ref 488) (Str.ofString "put") = some (some (.ref 471)) ∧ isFn (mkG w mg mb lo).K (.ref 471) = true ∧ keepIn (mkG w mg mb lo).K (.ref 471) = true := ⟨by ktr_unf, by ktr_unf, by ktr_unf, by ktr_unf⟩
theorem me_Data_put : plainGet (mkG w mg mb lo).K 537 (Str.ofString "put") = true ∧ findIn (mkG w mg mb lo).K (.ref 537) (Str.ofString "put") = some (some (.ref 520)) ∧ isFn (mkG w mg mb lo).K (.ref 520) = true ∧ keepIn (mkG w mg mb lo).K (.ref 520) = true := ⟨by ktr_unf, by ktr_unf, by ktr_unf, by ktr_unf⟩
theorem me_Data_get : plainGet (mkG w mg mb lo).K 537 (Str.ofString "get") = true ∧ findIn (mkG w mg mb lo).K (.ref 537) (Str.ofString "get") = some (some (.ref 527)) ∧ isFn (mkG w mg mb lo).K (.ref 527) = true ∧ keepIn (mkG w mg mb lo).K (.ref 527) = true := ⟨by ktr_unf, by ktr_unf, by ktr_unf, by ktr_unf⟩
theorem me_Data_map_of : plainGet (mkG w mg mb lo).K 537 (Str.ofString "map_of") = true ∧ findIn (mkG w mg mb lo).K (.ref 537) (Str.ofString "map_of") = some (some (.ref 534)) ∧ isFn (mkG w mg mb lo).K (.ref 534) = true ∧ keepIn (mkG w mg mb lo).K (.ref 534) = true := ⟨by ktr_unf, by ktr_unf, by ktr_unf, by ktr_unf⟩
theorem me_LineMeasure_width : plainGet (mkG w mg mb lo).K 367 (Str.ofString "width") = true ∧ findIn (mkG w mg mb lo).K (.ref 367) (Str.ofString "width") = some (some (.ref 364)) ∧ isFn (mkG w mg mb lo).K (.ref 364) = true ∧ keepIn (mkG w mg mb lo).K (.ref 364) = true := ⟨by ktr_unf, by ktr_unf, by ktr_unf, by ktr_unf⟩
end
noncomputable abbrev ss (x : String) : D := .str (Str.ofString x)
structure Un where
 w : Str
 c : Int
 p : Int
 j : Bool
structure Vw where
 us : List Un
 solid : List Int
 regional : List Int
 numeric : List Bool
 strict : Str
 keep : Bool
 nums : Str
structure VA where
 v : Addr
 dv : Addr
 ho : Addr
 dh : Addr
 un : Addr
 so : Addr
 re : Addr
 nu : Addr
 da : Addr
 ua : List Addr
noncomputable def unitD (U : Un) : List (D × D) := [(ss "word", .str U.w), (ss "code", .int U.c), (ss "at", .int U.p), (ss "is_joined", .bool U.j)]
structure View (H : Hp) (A : VA) (V : Vw) : Prop where
 v : H A.v = some (.ins 213 A.dv)
 dv : H A.dv = some (.dct [(ss "data", .ref A.da), (ss "how", .ref A.ho), (ss "units", .ref A.un), (ss "solid", .ref A.so), (ss "regional", .ref A.re), (ss "numeric", .ref A.nu)])
 ho : H A.ho = some (.ins 122 A.dh)
 dh : H A.dh = some (.dct [(ss "strictness", .str V.strict), (ss "keep_all", .bool V.keep), (ss "numbers", .str V.nums)])
 un : H A.un = some (.lst (A.ua.map .ref))
 so : H A.so = some (.lst (V.solid.map .int))
 re : H A.re = some (.lst (V.regional.map .int))
 nu : H A.nu = some (.lst (V.numeric.map .bool))
 unit : ∀ (i : Nat) (u : Addr), A.ua[i]? = some u → ∃ du U, V.us[i]? = some U ∧ H u = some (.ins 157 du) ∧ H du = some (.dct (unitD U))
 len : A.ua.length = V.us.length
 lso : V.solid.length = V.us.length
 lre : V.regional.length = V.us.length
 lnu : V.numeric.length = V.us.length
 small : V.us.length ≤ 100
noncomputable def Vw.W (V : Vw) (p : Int) : Str := if 0 ≤ p ∧ p < V.us.length then (V.us[p.toNat]?.map Un.w).getD ⟨#[]⟩ else ⟨#[]⟩
noncomputable def Vw.C (V : Vw) (p : Int) : Int := (V.us[p.toNat]?.map Un.c).getD 0
noncomputable def Vw.S (V : Vw) (p : Int) : Int := (V.solid[p.toNat]?).getD 0
noncomputable abbrev MCall (env : Env) (o : Expr) (name : Str) (apos : Pos) (args : List Expr) (pos : Pos) (pl : Sem Bool) : Prop := eval (.Call (.Attribute o name apos) args [] pos) env = (do
   let ov ← eval o env
   standAt apos.atName
   let (f, first) ← holding [ov] (getMethod ov name pl)
   callWith pos f first (backTo pos (starEach args env)) [])
section
variable {w : World} {mg mb : Str → Option Value} {lo : Lo} {n : Nat} {H : Hp} {A : VA} {V : Vw}
theorem View.at {i : Nat} (hV : View H A V) (h : i < V.us.length) : ∃ u du U, (A.ua.map D.ref)[i]? = some (.ref u) ∧ V.us[i]? = some U ∧ H u = some (.ins 157 du) ∧ H du = some (.dct (unitD U)) := by
 have h' : i < A.ua.length := by rw [hV.len]; exact h
 obtain ⟨du, U, a, b, c⟩ := hV.unit i A.ua[i] (List.getElem?_eq_getElem h')
 exact ⟨_, du, U, by simp [h'], a, b, c⟩
local macro_rules | `(tactic| ktr_unf) => `(tactic| (dsimp only [mkG]; k_is))
theorem word_ok (hV : View H A V) (p : Int) : CalP (mkG w mg mb lo) (n + 2) H (.ref 189) [.ref A.v, .int p] (.str (V.W p)) := by
 have hs := hV.small
 have hl : (A.ua.map D.ref).length = V.us.length := by simp [hV.len]
 by_cases hp : 0 ≤ p ∧ p < V.us.length
 ·obtain ⟨u, du, U, a, b, c, d⟩ := hV.at (i := p.toNat) (by one_sign)
  refine CalP.conv (d := .str U.w) ?_ (by unfold Vw.W; rw [if_pos hp, b]; rfl)
  refine CalP.fn (es := [.ref A.v, .int p]) [Str.ofString "self", Str.ofString "place"] (by ktr_unf) (by ktr_unf) (fun B T s vs k i => BindsTo.two (fun a b => rfl) i) (fun L hL => ?_)
  refine ExP.ret (EvP.conv (EvP.ifx (x := true) (d1 := .str U.w) (d2 := .str ⟨#[]⟩) ?_ (fun _ => ?_) (fun h => by cases h)) rfl)
  ·have e : (decide (0 ≤ p) && decide (p < ((A.ua.map D.ref).length : Int))) = true := by simp [hV.len]; one_sign
   rw [← e]
   exact EvPB.chain2 EvP.cint (EvP.loc rfl) CmpP.lte (EvP.callB (id := "len") (by ktr_unf) rfl (EvPL.cons (EvP.attr (EvP.loc rfl) (gp_LineView_units hV.v hV.dv rfl)) EvPL.nil) (CalP.lenL hV.un (by one_sign))) CmpP.lt
  ·exact EvP.attr (EvP.item (EvP.attr (EvP.loc rfl) (gp_LineView_units hV.v hV.dv rfl)) (EvP.loc rfl) (ItemP.lst hV.un hp.1 a (by one_sign))) (gp_LineUnit_word c d rfl)
 ·refine CalP.conv (d := .str ⟨#[]⟩) ?_ (by simp [Vw.W, hp])
  refine CalP.fn (es := [.ref A.v, .int p]) [Str.ofString "self", Str.ofString "place"] (by ktr_unf) (by ktr_unf) (fun B T s vs k i => BindsTo.two (fun a b => rfl) i) (fun L hL => ?_)
  refine ExP.ret (EvP.conv (EvP.ifx (x := false) (d1 := .str ⟨#[]⟩) (d2 := .str ⟨#[]⟩) ?_ (fun h => by cases h) (fun _ => EvP.cstr)) rfl)
  have e : (decide (0 ≤ p) && decide (p < ((A.ua.map D.ref).length : Int))) = false := by rw [Bool.and_eq_false_iff]; simp [hV.len]; one_sign
  rw [← e]
  exact EvPB.chain2 EvP.cint (EvP.loc rfl) CmpP.lte (EvP.callB (id := "len") (by ktr_unf) rfl (EvPL.cons (EvP.attr (EvP.loc rfl) (gp_LineView_units hV.v hV.dv rfl)) EvPL.nil) (CalP.lenL hV.un (by one_sign))) CmpP.lt
theorem ev_word {env : Env} {m : Loc} {o e : Expr} {apos pos : Pos} {p : Int} (hV : View H A V) (h : EvP (mkG w mg mb lo) (n + 2) env m H o (.ref A.v)) (h4 : EvP (mkG w mg mb lo) (n + 2) env m H e (.int p))
  {pl : Sem Bool} (he : autoParam (MCall env o (Str.ofString "word") apos [e] pos pl) aR) (hs : autoParam (starEach (e :: []) env = (false, eval e env) :: starEach [] env) aR) : EvP (mkG w mg mb lo) (n + 2) env m H (.Call (.Attribute o (Str.ofString "word") apos) [e] [] pos) (.str (V.W p)) :=
 EvP.meth (C := 213) hV.v hV.dv rfl me_LineView_word.1 me_LineView_word.2.1 me_LineView_word.2.2.1 me_LineView_word.2.2.2 h (EvPL.cons h4 EvPL.nil hs) (word_ok hV p) he hs
theorem View.so_at (hV : View H A V) {p : Int} (h0 : 0 ≤ p) (h1 : p < V.us.length) : (V.solid.map D.int)[p.toNat]? = some (.int (V.S p)) := by
 have hp : p.toNat < V.solid.length := by rw [hV.lso]; one_sign
 unfold Vw.S; simp [hp]
theorem solid_word_ok (hV : View H A V) (p : Int) (h0 : 0 ≤ p) (h1 : p < V.us.length) : CalP (mkG w mg mb lo) (n + 3) H (.ref 196) [.ref A.v, .int p] (.str (V.W (V.S p))) := by
 have hs := hV.small
 have hl := hV.lso
 refine CalP.fn (es := [.ref A.v, .int p]) [Str.ofString "self", Str.ofString "place"] (by ktr_unf) (by ktr_unf) (fun B T s vs k i => BindsTo.two (fun a b => rfl) i) (fun L hL => ?_)
 exact ExP.ret (ev_word hV (EvP.loc rfl) (EvP.item (EvP.attr (EvP.loc rfl) (gp_LineView_solid hV.v hV.dv rfl)) (EvP.loc rfl) (ItemP.lst hV.so h0 (hV.so_at h0 h1) (by simp; one_sign))))
theorem ev_solid_word {env : Env} {m : Loc} {o e : Expr} {apos pos : Pos} {p : Int} (hV : View H A V) (h : EvP (mkG w mg mb lo) (n + 3) env m H o (.ref A.v)) (h4 : EvP (mkG w mg mb lo) (n + 3) env m H e (.int p)) (h0 : 0 ≤ p) (h1 : p < V.us.length)
  {pl : Sem Bool} (he : autoParam (MCall env o (Str.ofString "solid_word") apos [e] pos pl) aR) (hs : autoParam (starEach (e :: []) env = (false, eval e env) :: starEach [] env) aR) : EvP (mkG w mg mb lo) (n + 3) env m H (.Call (.Attribute o (Str.ofString "solid_word") apos) [e] [] pos) (.str (V.W (V.S p))) :=
 EvP.meth (C := 213) hV.v hV.dv rfl me_LineView_solid_word.1 me_LineView_solid_word.2.1 me_LineView_solid_word.2.2.1 me_LineView_solid_word.2.2.2 h (EvPL.cons h4 EvPL.nil hs) (solid_word_ok hV p h0 h1) he hs
end
local macro_rules | `(tactic| ktr_unf) => `(tactic| (dsimp only [mkG]; k_is))
local macro_rules | `(tactic| tb_rel) => `(tactic| ((show (_ : Prop)); first
 | ((show EvP ..); first
  | exact EvP.loc rfl
  | exact EvP.cstr | exact EvP.cint | exact EvP.cnone | exact EvP.cbool
  | exact EvP.glob (by ktr_unf) (IsTop.tup (by ktr_unf) (by rfl))
  | exact EvP.tup (by tb_start)
  | (refine' EvP.bin ?_ ?_ ?_)
  | (refine' EvP.ifx ?_ (fun _ => ?_) (fun _ => ?_))
  | (refine' ev_word (by assumption) ?_ ?_)
  | (refine' ev_solid_word (by assumption) ?_ ?_ ?_ ?_)
  | (refine' EvP.attr ?_ ?_)
  | (refine' EvP.item ?_ ?_ ?_)
  | (refine' EvP.cmp ?_ ?_ ?_) | (refine' EvP.one ?_) | (refine' EvP.and ?_ fun _ => ?_) | (refine' EvP.orB ?_ fun _ => ?_) | (refine' EvP.not ?_ ?_))
 | ((show ItemP ..); first
  | exact ItemP.lst (View.un (by assumption)) (by one_sign) (by assumption) (by assumption)
  | exact ItemP.lst (View.so (by assumption)) (by one_sign) (View.so_at (by assumption) (by one_sign) (by one_sign)) (by assumption))
 | ((show TruP ..); first | exact TruP.bool | exact TruP.int)
 | ((show EvPB ..); first
  | (refine' EvPB.cmp ?_ ?_ ?_) | (refine' EvPB.and1 ?_) | (refine' EvPB.and ?_ fun _ => ?_) | (refine' EvPB.or1 ?_) | (refine' EvPB.or ?_ fun _ => ?_) | (refine' EvPB.not ?_) | (refine' EvPB.plain ?_ ?_))
 | ((show CmpP ..); first
  | exact CmpP.eq | exact CmpP.ne | exact CmpP.inT | exact CmpP.ninT | exact CmpP.is | exact CmpP.isnot | exact CmpP.lt | exact CmpP.lte | exact CmpP.gt | exact CmpP.gte)
 | ((show ExP ..); first | (refine' ExP.ret ?_) | (refine' ExP.iteR ?_ (fun _ => ?_) (fun _ => ?_)) | (refine' ExP.asg ?_ ?_) | (refine' ExP.asgS2 ?_ ?_) | (refine' ExP.asgS3 ?_ ?_))
 | ((show ExT ..); first | (refine' ExT.nil ?_) | (refine' ExT.asg ?_ ?_) | (refine' ExT.iteR ?_ (fun _ => ?_) (fun _ => ?_)))
 | ((show EvPL ..); first | exact EvPL.nil | (refine' EvPL.cons ?_ ?_))
 | ((show BinP ..); first | exact BinP.add | exact BinP.sub)
 | ((show GetP ..); first
  | exact gp_LineUnit_is_joined (by assumption) (by assumption) rfl
  | exact gp_LineUnit_code (by assumption) (by assumption) rfl
  | exact gp_LineUnit_word (by assumption) (by assumption) rfl
  | exact gp_LineView_how (View.v (by assumption)) (View.dv (by assumption)) rfl
  | exact gp_LineView_units (View.v (by assumption)) (View.dv (by assumption)) rfl
  | exact gp_LineView_solid (View.v (by assumption)) (View.dv (by assumption)) rfl
  | exact gp_LineHow_numbers (View.ho (by assumption)) (View.dh (by assumption)) rfl
  | exact gp_LineHow_strictness (View.ho (by assumption)) (View.dh (by assumption)) rfl
  | exact gp_LineHow_keep_all (View.ho (by assumption)) (View.dh (by assumption)) rfl)
 | (with_reducible show (_ : Int) ≤ _; one_sign) | (with_reducible show (_ : Int) < _; one_sign)))
local macro_rules | `(tactic| tb_start) => `(tactic| repeat' tb_rel)
local macro_rules | `(tactic| ktr_rel) => `(tactic| (repeat' first | with_reducible exact lset_self | with_reducible assumption | with_reducible refine' lset_get (by decide) ?_ | exact lset_self | assumption))
noncomputable def no (x : String) : D := .tup [ss "no", ss x]
noncomputable def may (x : String) : D := .tup [ss "may", ss x]
noncomputable def must (x : String) : D := .tup [ss "must", ss x]
noncomputable def is (a : Str) (x : String) : Bool := a == Str.ofString x
noncomputable def inl (a : Str) (l : List String) : Bool := l.any fun e => Str.ofString e == a
noncomputable abbrev HARD := ["BK", "CR", "LF", "NL"]
noncomputable abbrev INNER := ["NU", "SY", "IS"]
noncomputable abbrev ALPH := ["AL", "HL"]
noncomputable abbrev AFFIX := ["PR", "PO"]
noncomputable abbrev IDEO := ["ID", "EB", "EM"]
noncomputable abbrev SYLL := ["JL", "JV", "JT", "H2", "H3"]
noncomputable def rHard (a b : Str) : D := bif is a "BK" then must "LB4" else bif is a "CR" && is b "LF" then no "LB5" else bif inl a HARD then must "LB5" else bif inl b HARD then no "LB6" else .none
noncomputable def rSpaces (b s : Str) (j : Bool) : D := bif inl b ["SP", "ZW"] then no "LB7" else bif is s "ZW" then may "LB8" else bif j then no "LB8a" else .none
noncomputable def rGlue (a b : Str) : D := bif is a "WJ" || is b "WJ" then no "LB11" else bif is a "GL" then no "LB12" else bif is b "GL" && !inl a ["SP", "BA", "HY"] then no "LB12a" else .none
noncomputable def rClosing (a b s nums : Str) : D := bif inl b ["CL", "CP", "EX", "IS", "SY"] then (bif !(is nums "expression" && (!is b "EX" && is a "NU")) then no "LB13" else bif is s "OP" then no "LB14" else .none) else bif is s "OP" then no "LB14" else .none
noncomputable def rOver (a b s : Str) : D := bif inl s ["CL", "CP"] && is b "NS" then no "LB16" else bif is s "B2" && is b "B2" then no "LB17" else bif is a "SP" then may "LB18" else .none
noncomputable def rSigns (a b z strict : Str) : D := bif is a "QU" || is b "QU" then no "LB19" else bif is a "CB" || is b "CB" then may "LB20" else bif inl b ["BA", "HY", "NS"] || is a "BB" then no "LB21" else
 bif inl a ["HY", "BA"] && (is z "HL" && !is b "HL") then no "LB21a" else bif is a "SY" && is b "HL" then no "LB21b" else bif is b "IN" && !(is strict "loose" && is a "IN") then no "LB22" else .none
noncomputable def rLetters (a b : Str) : D := bif (inl a ALPH && is b "NU") || (is a "NU" && inl b ALPH) then no "LB23" else bif (is a "PR" && inl b IDEO) || (inl a IDEO && is b "PO") then no "LB23a" else
 bif (inl a AFFIX && inl b ALPH) || (inl a ALPH && inl b AFFIX) then no "LB24" else .none
section
variable {w : World} {mg mb : Str → Option Value} {lo : Lo} {n : Nat} {H : Hp} {A : VA} {V : Vw}
theorem rule_hard_ok (hV : View H A V) (p : Int) : CalP (mkG w mg mb lo) (n + 6) H (.ref 224) [.ref A.v, .int p] (rHard (V.W (p - 1)) (V.W p)) := by
 refine CalP.conv (d := ?d) ?hc ?he
 rotate_left
 case hc =>
  refine CalP.fn (es := [.ref A.v, .int p]) [Str.ofString "view", Str.ofString "at"] (by ktr_unf) (by ktr_unf) (fun B T s vs k i => BindsTo.two (fun a b => rfl) i) (fun L hL => ?_)
  tb_start
 rfl
theorem rule_glue_ok (hV : View H A V) (p : Int) : CalP (mkG w mg mb lo) (n + 6) H (.ref 238) [.ref A.v, .int p] (rGlue (V.W (p - 1)) (V.W p)) := by
 refine CalP.conv (d := ?d) ?hc ?he
 rotate_left
 case hc =>
  refine CalP.fn (es := [.ref A.v, .int p]) [Str.ofString "view", Str.ofString "at"] (by ktr_unf) (by ktr_unf) (fun B T s vs k i => BindsTo.two (fun a b => rfl) i) (fun L hL => ?_)
  tb_start
 rfl
theorem rule_letters_ok (hV : View H A V) (p : Int) : CalP (mkG w mg mb lo) (n + 6) H (.ref 273) [.ref A.v, .int p] (rLetters (V.W (p - 1)) (V.W p)) := by
 refine CalP.conv (d := ?d) ?hc ?he
 rotate_left
 case hc =>
  refine CalP.fn (es := [.ref A.v, .int p]) [Str.ofString "view", Str.ofString "at"] (by ktr_unf) (by ktr_unf) (fun B T s vs k i => BindsTo.two (fun a b => rfl) i) (fun L hL => ?_)
  tb_start
 rfl
theorem rule_over_ok (hV : View H A V) (p : Int) (h0 : 1 ≤ p) (h1 : p < V.us.length) : CalP (mkG w mg mb lo) (n + 6) H (.ref 259) [.ref A.v, .int p] (rOver (V.W (p - 1)) (V.W p) (V.W (V.S (p - 1)))) := by
 refine CalP.conv (d := ?d) ?hc ?he
 rotate_left
 case hc =>
  refine CalP.fn (es := [.ref A.v, .int p]) [Str.ofString "view", Str.ofString "at"] (by ktr_unf) (by ktr_unf) (fun B T s vs k i => BindsTo.two (fun a b => rfl) i) (fun L hL => ?_)
  tb_start
 rfl
theorem rule_signs_ok (hV : View H A V) (p : Int) : CalP (mkG w mg mb lo) (n + 6) H (.ref 266) [.ref A.v, .int p] (rSigns (V.W (p - 1)) (V.W p) (V.W (p - 2)) V.strict) := by
 refine CalP.conv (d := ?d) ?hc ?he
 rotate_left
 case hc =>
  refine CalP.fn (es := [.ref A.v, .int p]) [Str.ofString "view", Str.ofString "at"] (by ktr_unf) (by ktr_unf) (fun B T s vs k i => BindsTo.two (fun a b => rfl) i) (fun L hL => ?_)
  tb_start
 rfl
theorem View.len' (hV : View H A V) : (A.ua.map D.ref).length < 2 ^ 62 ∧ (V.solid.map D.int).length < 2 ^ 62 := by
 have := hV.small; have := hV.len; have := hV.lso
 simp; one_sign
noncomputable def Vw.J (V : Vw) (p : Int) : Bool := (V.us[p.toNat]?.map Un.j).getD false
theorem rule_spaces_ok (hV : View H A V) (p : Int) (h0 : 1 ≤ p) (h1 : p < V.us.length) : CalP (mkG w mg mb lo) (n + 6) H (.ref 231) [.ref A.v, .int p] (rSpaces (V.W p) (V.W (V.S (p - 1))) (V.J (p - 1))) := by
 obtain ⟨u, du, U, a, b, c, d⟩ := hV.at (i := (p - 1).toNat) (by one_sign)
 obtain ⟨l1, l2⟩ := hV.len'
 have e : V.J (p - 1) = U.j := by unfold Vw.J; rw [b]; rfl
 rw [e]
 refine CalP.conv (d := ?d) ?hc ?he
 rotate_left
 case hc =>
  refine CalP.fn (es := [.ref A.v, .int p]) [Str.ofString "view", Str.ofString "at"] (by ktr_unf) (by ktr_unf) (fun B T s vs k i => BindsTo.two (fun a b => rfl) i) (fun L hL => ?_)
  tb_start
 rfl
theorem rule_closing_ok (hV : View H A V) (p : Int) (h0 : 1 ≤ p) (h1 : p < V.us.length) : CalP (mkG w mg mb lo) (n + 6) H (.ref 245) [.ref A.v, .int p] (rClosing (V.W (p - 1)) (V.W p) (V.W (V.S (p - 1))) V.nums) := by
 refine CalP.conv (d := ?d) ?hc ?he
 rotate_left
 case hc =>
  refine CalP.fn (es := [.ref A.v, .int p]) [Str.ofString "view", Str.ofString "at"] (by ktr_unf) (by ktr_unf) (fun B T s vs k i => BindsTo.two (fun a b => rfl) i) (fun L hL => ?_)
  refine' ExP.asg ?x1 ?x2
  case x1 => tb_start
  case x2 =>
   refine' ExP.iteF ?x6 (fun _ => ?x7) (fun _ => ?x8)
   case x6 => tb_start
   case x7 => tb_start
   case x8 => tb_start
 rfl
end
structure DatOk (G : Gd) (n : Nat) (H : Hp) (da : Addr) (lb gc ea : Int → Str) : Prop where
 inst : ∃ dd l, H da = some (.ins 537 dd) ∧ H dd = some (.dct l) ∧ sget (Str.ofString "get") l = none
 lb : ∀ c, 0 ≤ c → CalP G n H (.ref 527) [.ref da, ss "lb", .int c] (.str (lb c))
 gc : ∀ c, 0 ≤ c → CalP G n H (.ref 527) [.ref da, ss "gc", .int c] (.str (gc c))
 ea : ∀ c, 0 ≤ c → CalP G n H (.ref 527) [.ref da, ss "ea", .int c] (.str (ea c))
noncomputable def Vw.codes (V : Vw) : Prop := ∀ U ∈ V.us, 0 ≤ U.c
noncomputable def Vw.N (V : Vw) : Int := V.us.length
noncomputable def Vw.Q (V : Vw) (gc : Int → Str) (p : Int) (k : Str) : Bool := is (V.W p) "QU" && gc (V.C p) == k
noncomputable def rQuotes (V : Vw) (gc : Int → Str) (p : Int) : D := bif V.Q gc (V.S (p - 1)) (Str.ofString "Pi") && (V.S (p - 1) == 0 || inl (V.W (V.S (p - 1) - 1)) ["BK", "CR", "LF", "NL", "OP", "QU", "GL", "SP", "ZW"]) then no "LB15a" else
 bif V.Q gc p (Str.ofString "Pf") && (p + 1 == V.N || inl (V.W (p + 1)) ["SP", "GL", "WJ", "CL", "QU", "CP", "EX", "IS", "SY", "BK", "CR", "LF", "NL", "ZW"]) then no "LB15b" else .none
noncomputable def Vw.nar (V : Vw) (ea : Int → Str) (p : Int) : Bool := !inl (ea (V.C p)) ["F", "W", "H"]
noncomputable def rBrackets (V : Vw) (ea : Int → Str) (p : Int) : D := bif is (V.W (p - 1)) "IS" && inl (V.W p) ALPH then no "LB29" else
 bif (inl (V.W (p - 1)) ALPH || is (V.W (p - 1)) "NU") && (is (V.W p) "OP" && V.nar ea p) then no "LB30" else
 bif is (V.W (p - 1)) "CP" && ((inl (V.W p) ALPH || is (V.W p) "NU") && V.nar ea (p - 1)) then no "LB30" else .none
section
variable {w : World} {mg mb : Str → Option Value} {lo : Lo} {n : Nat} {H : Hp} {A : VA} {V : Vw} {lb gc ea : Int → Str}
theorem ev_get {env : Env} {m : Loc} {o e e2 : Expr} {apos pos : Pos} {c x d : D} (hD : DatOk (mkG w mg mb lo) (n + 3) H A.da lb gc ea) (hc : CalP (mkG w mg mb lo) (n + 3) H (.ref 527) [.ref A.da, x, c] d) (h : EvP (mkG w mg mb lo) (n + 3) env m H o (.ref A.da)) (h1 : EvP (mkG w mg mb lo) (n + 3) env m H e x) (h4 : EvP (mkG w mg mb lo) (n + 3) env m H e2 c)
  {pl : Sem Bool} (he : autoParam (MCall env o (Str.ofString "get") apos [e, e2] pos pl) aR) (hs : autoParam (starEach (e :: [e2]) env = (false, eval e env) :: starEach [e2] env) aR) (hs2 : autoParam (starEach (e2 :: []) env = (false, eval e2 env) :: starEach [] env) aR) (hp : autoParam ((backTo pos (starEach [e2] env)).any (·.1) = false) aR) :
  EvP (mkG w mg mb lo) (n + 3) env m H (.Call (.Attribute o (Str.ofString "get") apos) [e, e2] [] pos) d := by
 obtain ⟨dd, l, a, b, z⟩ := hD.inst
 exact EvP.meth (C := 537) a b z me_Data_get.1 me_Data_get.2.1 me_Data_get.2.2.1 me_Data_get.2.2.2 h (EvPL.cons h1 (EvPL.cons h4 EvPL.nil hs2) hs) hc he hs hp
theorem View.C_at (hV : View H A V) {p : Int} (h0 : 0 ≤ p) (h1 : p < V.us.length) : ∃ u du U, (A.ua.map D.ref)[p.toNat]? = some (.ref u) ∧ V.us[p.toNat]? = some U ∧ H u = some (.ins 157 du) ∧ H du = some (.dct (unitD U)) ∧ V.C p = U.c ∧ V.W p = U.w := by
 obtain ⟨u, du, U, a, b, c, d⟩ := hV.at (i := p.toNat) (by one_sign)
 exact ⟨u, du, U, a, b, c, d, by unfold Vw.C; rw [b]; rfl, by unfold Vw.W; rw [if_pos ⟨h0, h1⟩, b]; rfl⟩
theorem W_out {p : Int} (h : ¬ (0 ≤ p ∧ p < V.us.length)) : V.W p = ⟨#[]⟩ := by unfold Vw.W; rw [if_neg h]
theorem is_quote_ok (hV : View H A V) (hD : DatOk (mkG w mg mb lo) (n + 3) H A.da lb gc ea) (hc : V.codes) (p : Int) (k : Str) : CalP (mkG w mg mb lo) (n + 4) H (.ref 203) [.ref A.v, .int p, .str k] (.bool (V.Q gc p k)) := by
 obtain ⟨l1, l2⟩ := hV.len'
 by_cases hp : 0 ≤ p ∧ p < V.us.length
 ·have h0 := hp.1
  obtain ⟨u, du, U, a, b, c, d, e1, e2⟩ := hV.C_at hp.1 hp.2
  have hU : 0 ≤ U.c := hc U (List.mem_of_getElem? b)
  refine CalP.conv (d := ?d) ?hc ?he
  rotate_left
  case hc =>
   refine CalP.fn (es := [.ref A.v, .int p, .str k]) [Str.ofString "self", Str.ofString "place", Str.ofString "kind"] (by ktr_unf) (by ktr_unf) (fun B T s vs k i => BindsTo.three (fun a b c => rfl) i) (fun L hL => ?_)
   refine' ExP.ret ?x1
   case x1 =>
    refine' EvP.and ?x2 (fun _ => ?x3)
    case x2 => tb_start
    case x3 =>
     refine' EvP.one ?x4
     case x4 =>
      refine' EvP.cmp ?x5 ?x6 ?x7
      case x5 =>
       refine' ev_get hD (hD.gc U.c hU) ?y1 ?y2 ?y3
       case y1 => exact EvP.attr (EvP.loc rfl) (gp_LineView_data hV.v hV.dv rfl)
       case y2 => tb_start
       case y3 => tb_start
      case x6 => tb_start
      case x7 => exact CmpP.eq
  unfold Vw.Q; rw [e1]; rfl
 ·refine CalP.conv (d := .bool (false && false)) ?_ (by unfold Vw.Q; rw [W_out hp]; rfl)
  refine CalP.fn (es := [.ref A.v, .int p, .str k]) [Str.ofString "self", Str.ofString "place", Str.ofString "kind"] (by ktr_unf) (by ktr_unf) (fun B T s vs k i => BindsTo.three (fun a b c => rfl) i) (fun L hL => ?_)
  refine ExP.ret (EvP.and (a := false) (b := false) ?_ (fun h => by cases h))
  refine EvP.conv (d := .bool (deq (.str (V.W p)) (.str (Str.ofString "QU")))) ?_ (by rw [W_out hp]; rfl)
  tb_start
theorem is_narrow_ok (hV : View H A V) (hD : DatOk (mkG w mg mb lo) (n + 3) H A.da lb gc ea) (hc : V.codes) (p : Int) (h0 : 0 ≤ p) (h1 : p < V.us.length) : CalP (mkG w mg mb lo) (n + 4) H (.ref 210) [.ref A.v, .int p] (.bool (V.nar ea p)) := by
 obtain ⟨l1, l2⟩ := hV.len'
 obtain ⟨u, du, U, a, b, c, d, e1, e2⟩ := hV.C_at h0 h1
 have hU : 0 ≤ U.c := hc U (List.mem_of_getElem? b)
 refine CalP.conv (d := ?d) ?hc ?he
 rotate_left
 case hc =>
  refine CalP.fn (es := [.ref A.v, .int p]) [Str.ofString "self", Str.ofString "place"] (by ktr_unf) (by ktr_unf) (fun B T s vs k i => BindsTo.two (fun a b => rfl) i) (fun L hL => ?_)
  refine' ExP.ret ?x1
  case x1 =>
   refine' EvP.cmp ?x5 ?x6 ?x7
   case x5 =>
    refine' ev_get hD (hD.ea U.c hU) ?y1 ?y2 ?y3
    case y1 => exact EvP.attr (EvP.loc rfl) (gp_LineView_data hV.v hV.dv rfl)
    case y2 => tb_start
    case y3 => tb_start
   case x6 => tb_start
   case x7 => exact CmpP.ninT
 unfold Vw.nar; rw [e1]; rfl
theorem ev_quote {k' : Nat} {env : Env} {m : Loc} {o e e2 : Expr} {apos pos : Pos} {p : Int} {k : Str} (hV : View H A V) (hD : DatOk (mkG w mg mb lo) (n + 3) H A.da lb gc ea) (hc : V.codes) (hk : n + 4 ≤ k') (h : EvP (mkG w mg mb lo) k' env m H o (.ref A.v)) (h4 : EvP (mkG w mg mb lo) k' env m H e (.int p)) (h5 : EvP (mkG w mg mb lo) k' env m H e2 (.str k))
  {pl : Sem Bool} (he : autoParam (MCall env o (Str.ofString "is_quote") apos [e, e2] pos pl) aR) (hs : autoParam (starEach (e :: [e2]) env = (false, eval e env) :: starEach [e2] env) aR) (hs2 : autoParam (starEach (e2 :: []) env = (false, eval e2 env) :: starEach [] env) aR) (hp : autoParam ((backTo pos (starEach [e2] env)).any (·.1) = false) aR) :
  EvP (mkG w mg mb lo) k' env m H (.Call (.Attribute o (Str.ofString "is_quote") apos) [e, e2] [] pos) (.bool (V.Q gc p k)) :=
 EvP.meth (C := 213) hV.v hV.dv rfl me_LineView_is_quote.1 me_LineView_is_quote.2.1 me_LineView_is_quote.2.2.1 me_LineView_is_quote.2.2.2 h (EvPL.cons h4 (EvPL.cons h5 EvPL.nil hs2) hs) ((is_quote_ok hV hD hc p k).le hk) he hs hp
theorem ev_narrow {k' : Nat} {env : Env} {m : Loc} {o e : Expr} {apos pos : Pos} {p : Int} (hV : View H A V) (hD : DatOk (mkG w mg mb lo) (n + 3) H A.da lb gc ea) (hc : V.codes) (hk : n + 4 ≤ k') (h : EvP (mkG w mg mb lo) k' env m H o (.ref A.v)) (h4 : EvP (mkG w mg mb lo) k' env m H e (.int p)) (h0 : 0 ≤ p) (h1 : p < V.us.length)
  {pl : Sem Bool} (he : autoParam (MCall env o (Str.ofString "is_narrow") apos [e] pos pl) aR) (hs : autoParam (starEach (e :: []) env = (false, eval e env) :: starEach [] env) aR) :
  EvP (mkG w mg mb lo) k' env m H (.Call (.Attribute o (Str.ofString "is_narrow") apos) [e] [] pos) (.bool (V.nar ea p)) :=
 EvP.meth (C := 213) hV.v hV.dv rfl me_LineView_is_narrow.1 me_LineView_is_narrow.2.1 me_LineView_is_narrow.2.2.1 me_LineView_is_narrow.2.2.2 h (EvPL.cons h4 EvPL.nil hs) ((is_narrow_ok hV hD hc p h0 h1).le hk) he hs
local macro_rules | `(tactic| tb_rel) => `(tactic| ((show EvP ..); first
  | (refine' ev_quote (by assumption) (by assumption) (by assumption) (by one_sign) ?_ ?_ ?_)
  | (refine' ev_narrow (by assumption) (by assumption) (by assumption) (by one_sign) ?_ ?_ ?_ ?_)
  | (refine' EvP.callB (id := "len") (by ktr_unf) (by rfl) ?_ ?_)))
local macro_rules | `(tactic| tb_rel) => `(tactic| ((show CalP ..); exact CalP.lenL (View.un (by assumption)) (by assumption)))
theorem rule_quotes_ok (hV : View H A V) (hD : DatOk (mkG w mg mb lo) (n + 3) H A.da lb gc ea) (hc : V.codes) (p : Int) (h0 : 1 ≤ p) (h1 : p < V.us.length) : CalP (mkG w mg mb lo) (n + 6) H (.ref 252) [.ref A.v, .int p] (rQuotes V gc p) := by
 obtain ⟨l1, l2⟩ := hV.len'
 refine CalP.conv (d := ?d) ?hc ?he
 rotate_left
 case hc =>
  refine CalP.fn (es := [.ref A.v, .int p]) [Str.ofString "view", Str.ofString "at"] (by ktr_unf) (by ktr_unf) (fun B T s vs k i => BindsTo.two (fun a b => rfl) i) (fun L hL => ?_)
  tb_start
 unfold rQuotes Vw.N
 rw [show ((A.ua.map D.ref).length : Int) = (V.us.length : Int) by rw [List.length_map, hV.len]]
 rfl
theorem rule_brackets_ok (hV : View H A V) (hD : DatOk (mkG w mg mb lo) (n + 3) H A.da lb gc ea) (hc : V.codes) (p : Int) (h0 : 1 ≤ p) (h1 : p < V.us.length) : CalP (mkG w mg mb lo) (n + 6) H (.ref 322) [.ref A.v, .int p] (rBrackets V ea p) := by
 refine CalP.conv (d := ?d) ?hc ?he
 rotate_left
 case hc =>
  refine CalP.fn (es := [.ref A.v, .int p]) [Str.ofString "view", Str.ofString "at"] (by ktr_unf) (by ktr_unf) (fun B T s vs k i => BindsTo.two (fun a b => rfl) i) (fun L hL => ?_)
  tb_start
 rfl
end
noncomputable def Vw.Nm (V : Vw) (p : Int) : Bool := (V.numeric[p.toNat]?).getD false
noncomputable def Vw.isNum (V : Vw) (p : Int) : Bool := decide (p ≥ 0) && V.Nm p
noncomputable def numsT : List D := [("CL", "PO"), ("CP", "PO"), ("CL", "PR"), ("CP", "PR"), ("NU", "PO"), ("NU", "PR"), ("PO", "OP"), ("PO", "NU"), ("PR", "OP"), ("PR", "NU"), ("HY", "NU"), ("IS", "NU"), ("NU", "NU"), ("SY", "NU")].map fun p => .tup [ss p.1, ss p.2]
noncomputable def rExpr (V : Vw) (p : Int) : D :=
 let a := V.W (p - 1)
 let b := V.W p
 bif inl a AFFIX && (is b "NU" || (inl b ["OP", "HY"] && is (V.W (p + 1)) "NU")) || (inl a ["OP", "HY"] && is b "NU") then no "LB25" else
 bif inl b INNER || inl b ["CL", "CP"] then (bif V.isNum (p - 1) then no "LB25" else .none) else
 bif inl b AFFIX then (bif V.isNum (bif inl a ["CL", "CP"] then p - 2 else p - 1) then no "LB25" else .none) else .none
noncomputable def rNumbers (V : Vw) (p : Int) : D := bif is V.nums "expression" then rExpr V p else bif numsT.any (fun e => deq e (.tup [.str (V.W (p - 1)), .str (V.W p)])) then no "LB25" else .none
noncomputable def Vw.ak (V : Vw) (p : Int) (l : List String) : Bool := bif !(decide (0 ≤ p) && decide (p < V.N)) then false else inl (V.W p) l || V.C p == 9676
noncomputable def rAksaras (V : Vw) (p : Int) : D :=
 let a := V.W (p - 1)
 let b := V.W p
 let l := V.ak (p - 1) ["AK", "AS"]
 let r := V.ak p ["AK", "AS"]
 bif ((is a "AP" && r || l && inl b ["VF", "VI"]) || (is a "VI" && (V.ak (p - 2) ["AK", "AS"] && V.ak p ["AK"]))) || (l && (r && is (V.W (p + 1)) "VF")) then no "LB28a" else .none
noncomputable def rSyll (a b : Str) : D := bif inl a SYLL && is b "PO" || (is a "PR" && inl b SYLL) then no "LB27" else bif inl a ALPH && inl b ALPH then no "LB28" else .none
noncomputable def rPict (a b : Str) (keep : Bool) : D := bif keep && (inl a ["AL", "HL", "ID", "NU", "JL", "JV", "JT", "H2", "H3"] && inl b ["AL", "HL", "ID", "NU", "JL", "JV", "JT", "H2", "H3"]) then no "keep-all" else .none
section
variable {w : World} {mg mb : Str → Option Value} {lo : Lo} {n : Nat} {H : Hp} {A : VA} {V : Vw} {lb gc ea : Int → Str}
theorem View.nu_at (hV : View H A V) {p : Int} (h0 : 0 ≤ p) (h1 : p < V.us.length) : (V.numeric.map D.bool)[p.toNat]? = some (.bool (V.Nm p)) := by
 have hp : p.toNat < V.numeric.length := by rw [hV.lnu]; one_sign
 unfold Vw.Nm; simp [hp]
theorem is_number_ok (hV : View H A V) (p : Int) (h1 : p < V.us.length) : CalP (mkG w mg mb lo) (n + 1) H (.ref 280) [.ref A.v, .int p] (.bool (V.isNum p)) := by
 have hs := hV.small
 have hl := hV.lnu
 refine CalP.fn (es := [.ref A.v, .int p]) [Str.ofString "view", Str.ofString "place"] (by ktr_unf) (by ktr_unf) (fun B T s vs k i => BindsTo.two (fun a b => rfl) i) (fun L hL => ?_)
 refine ExP.ret (EvP.and (EvP.cmp (EvP.loc rfl) EvP.cint CmpP.gte) (fun h => EvP.one ?_))
 have h0 : 0 ≤ p := of_decide_eq_true h
 exact EvP.item (EvP.attr (EvP.loc rfl) (gp_LineView_numeric hV.v hV.dv rfl)) (EvP.loc rfl) (ItemP.lst hV.nu h0 (hV.nu_at h0 h1) (by simp; one_sign))
theorem is_aksara_ok (hV : View H A V) (p : Int) (l : List String) : CalP (mkG w mg mb lo) (n + 2) H (.ref 308) [.ref A.v, .int p, .tup (l.map ss)] (.bool (V.ak p l)) := by
 obtain ⟨l1, l2⟩ := hV.len'
 have hN : ((A.ua.map D.ref).length : Int) = V.N := by unfold Vw.N; rw [List.length_map, hV.len]
 have dk : ∀ (l : List String) (x : Str), ((l.map ss).all fun e => Mine.dk e (.str x)) = true := fun l x => by
  rw [List.all_eq_true]; intro e he
  obtain ⟨y, _, rfl⟩ := List.mem_map.mp he; rfl
 have any : ∀ (x : Str), ((l.map ss).any fun e => deq e (.str x)) = inl x l := fun x => by unfold inl; rw [List.any_map]; rfl
 by_cases hp : 0 ≤ p ∧ p < V.us.length
 ·obtain ⟨u, du, U, a, b, c, d, e1, e2⟩ := hV.C_at hp.1 hp.2
  have h0 := hp.1
  have e : (!(decide (0 ≤ p) && decide (p < V.N))) = false := by unfold Vw.N; simp [hp]
  refine CalP.conv (d := bif (!(decide (0 ≤ p) && decide (p < ((A.ua.map D.ref).length : Int)))) then .bool false else .bool (((l.map ss).any fun e => deq e (.str U.w)) || deq (.int U.c) (.int 9676))) ?_ (by rw [hN, any]; unfold Vw.ak; rw [e, e1, e2]; rfl)
  refine CalP.fn (es := [.ref A.v, .int p, .tup (l.map ss)]) [Str.ofString "view", Str.ofString "place", Str.ofString "words"] (by ktr_unf) (by ktr_unf) (fun B T s vs k i => BindsTo.three (fun a b c => rfl) i) (fun L hL => ?_)
  refine ExP.iteR (EvPB.not (EvPB.chain2 EvP.cint (EvP.loc rfl) CmpP.lte (EvP.callB (id := "len") (by ktr_unf) rfl (EvPL.cons (EvP.attr (EvP.loc rfl) (gp_LineView_units hV.v hV.dv rfl)) EvPL.nil) (CalP.lenL hV.un l1)) CmpP.lt)) (fun _ => ExP.ret EvP.cbool) (fun _ => ExP.ret (EvP.orB (EvP.cmp ?_ (EvP.loc rfl) (CmpP.inT (dk l _))) fun _ => EvP.one (EvP.cmp ?_ (EvP.glob (v := .int 9676 _) (by ktr_unf) (IsTop.s rfl)) CmpP.eq)))
  ·exact EvP.attr (EvP.item (EvP.attr (EvP.loc rfl) (gp_LineView_units hV.v hV.dv rfl)) (EvP.loc rfl) (ItemP.lst hV.un hp.1 a l1)) (gp_LineUnit_word c d rfl)
  ·exact EvP.attr (EvP.item (EvP.attr (EvP.loc rfl) (gp_LineView_units hV.v hV.dv rfl)) (EvP.loc rfl) (ItemP.lst hV.un hp.1 a l1)) (gp_LineUnit_code c d rfl)
 ·have e : (!(decide (0 ≤ p) && decide (p < V.N))) = true := by
   unfold Vw.N; rw [Bool.not_eq_true', Bool.and_eq_false_iff]; simp; one_sign
  refine CalP.conv (d := bif (!(decide (0 ≤ p) && decide (p < ((A.ua.map D.ref).length : Int)))) then .bool false else .bool false) ?_ (by rw [hN]; unfold Vw.ak; rw [e]; rfl)
  refine CalP.fn (es := [.ref A.v, .int p, .tup (l.map ss)]) [Str.ofString "view", Str.ofString "place", Str.ofString "words"] (by ktr_unf) (by ktr_unf) (fun B T s vs k i => BindsTo.three (fun a b c => rfl) i) (fun L hL => ?_)
  refine ExP.iteR (EvPB.not (EvPB.chain2 EvP.cint (EvP.loc rfl) CmpP.lte (EvP.callB (id := "len") (by ktr_unf) rfl (EvPL.cons (EvP.attr (EvP.loc rfl) (gp_LineView_units hV.v hV.dv rfl)) EvPL.nil) (CalP.lenL hV.un l1)) CmpP.lt)) (fun _ => ExP.ret EvP.cbool) (fun h => absurd h (by rw [hN, e]; simp))
local macro_rules | `(tactic| tb_rel) => `(tactic| ((show EvP ..); (refine' EvP.callD ?g1 (EvP.glob (by ktr_unf) IsTop.ref) ?_ ?_; (case g1 => ktr_unf))))
local macro_rules | `(tactic| tb_rel) => `(tactic| ((show CalP ..); first | exact is_number_ok (by assumption) _ (by one_sign) | exact is_aksara_ok (by assumption) _ ["AK", "AS"] | exact is_aksara_ok (by assumption) _ ["AK"]))
theorem rule_aksaras_ok (hV : View H A V) (p : Int) : CalP (mkG w mg mb lo) (n + 6) H (.ref 315) [.ref A.v, .int p] (rAksaras V p) := by
 refine CalP.conv (d := ?d) ?hc ?he
 rotate_left
 case hc =>
  refine CalP.fn (es := [.ref A.v, .int p]) [Str.ofString "view", Str.ofString "at"] (by ktr_unf) (by ktr_unf) (fun B T s vs k i => BindsTo.two (fun a b => rfl) i) (fun L hL => ?_)
  tb_start
 rfl
theorem rule_expression_ok (hV : View H A V) (p : Int) (h0 : 1 ≤ p) (h1 : p < V.us.length) : CalP (mkG w mg mb lo) (n + 6) H (.ref 287) [.ref A.v, .int p] (rExpr V p) := by
 have e1 : ∀ c : Bool, (bif c then p - 2 else p - 1) < V.us.length := fun c => by cases c <;> simp <;> one_sign
 refine CalP.conv (d := ?d) ?hc ?he
 rotate_left
 case hc =>
  refine CalP.fn (es := [.ref A.v, .int p]) [Str.ofString "view", Str.ofString "at"] (by ktr_unf) (by ktr_unf) (fun B T s vs k i => BindsTo.two (fun a b => rfl) i) (fun L hL => ?_)
  refine' ExP.asgS2 ?a1 ?a2
  case a1 => tb_start
  case a2 =>
   refine' ExP.asg ?b1 ?b2
   case b1 => tb_start
   case b2 =>
    refine' ExP.iteR ?c1 (fun _ => ?c2) (fun _ => ?c3)
    case c1 => tb_start
    case c2 => tb_start
    case c3 =>
     refine' ExP.iteR ?d1 (fun _ => ?d2) (fun _ => ?d3)
     case d1 => tb_start
     case d2 => tb_start
     case d3 =>
      refine' ExP.iteR ?g1 (fun _ => ?g2) (fun _ => ?g3)
      case g1 => tb_start
      case g3 => tb_start
      case g2 =>
       refine' ExP.asg (EvP.ifxI ?f1 (fun _ => ?f2) (fun _ => ?f3)) ?f4
       case f1 => tb_start
       case f2 => tb_start
       case f3 => tb_start
       case f4 =>
        refine' ExP.ret (EvP.ifx (EvPB.plain (EvP.callD (f := 280) (by ktr_unf) (EvP.glob (by ktr_unf) IsTop.ref) (EvPL.cons (EvP.loc rfl) (EvPL.cons (EvP.loc rfl) EvPL.nil)) (is_number_ok hV _ (e1 _))) TruP.bool) (fun _ => ?h1) (fun _ => ?h2))
        case h1 => tb_start
        case h2 => tb_start
 rfl
end
noncomputable def vOr (x y : D) : D := bif truth x then x else y
theorem ntl_bif {c : Bool} {x y : D} (a : ntl x = true) (b : ntl y = true) : ntl (bif c then x else y) = true := by cases c <;> assumption
noncomputable def verdict (V : Vw) (gc ea : Int → Str) (p : Int) : D :=
 let a := V.W (p - 1)
 let b := V.W p
 let s := V.W (V.S (p - 1))
 vOr (vOr (vOr (vOr (vOr (rHard a b) (vOr (rSpaces b s (V.J (p - 1))) (rGlue a b))) (vOr (rClosing a b s V.nums) (vOr (rQuotes V gc p) (rOver a b s)))) (vOr (rSigns a b (V.W (p - 2)) V.strict) (vOr (rLetters a b) (rNumbers V p)))) (vOr (rSyll a b) (vOr (rAksaras V p) (rBrackets V ea p)))) (vOr (rPict a b V.keep) (may "LB31"))
section
variable {w : World} {mg mb : Str → Option Value} {lo : Lo} {n : Nat} {H : Hp} {A : VA} {V : Vw} {lb gc ea : Int → Str}
local macro_rules | `(tactic| tb_rel) => `(tactic| first | ((show EvP ..); (refine' EvP.callD ?g1 (EvP.glob (by ktr_unf) IsTop.ref) ?_ ?_; (case g1 => ktr_unf))))
local macro_rules | `(tactic| tb_rel) => `(tactic| first | ((show EvP ..); (first | exact EvP.loc rfl | (refine' EvP.glob ?g3 ?g4; (case g3 => ktr_unf); (case g4 => (refine' IsTop.tupL ?g1 ?g2; (case g1 => ktr_unf); (case g2 => tb_start)))))))
local macro_rules | `(tactic| tb_rel) => `(tactic| ((show IsTopL ..); first | exact IsTopL.nil | (refine' IsTopL.cons ?_ ?_)))
local macro_rules | `(tactic| tb_rel) => `(tactic| first | ((show IsTop ..); exact IsTop.s rfl) | ((show IsTop ..); (refine' IsTop.tup ?c ?d; (case c => ktr_unf); (case d => rfl))))
local macro_rules | `(tactic| tb_rel) => `(tactic| first | ((show CalP ..); exact rule_expression_ok (by assumption) _ (by assumption) (by assumption)))
theorem rule_numbers_ok (hV : View H A V) (p : Int) (h0 : 1 ≤ p) (h1 : p < V.us.length) : CalP (mkG w mg mb lo) (n + 7) H (.ref 294) [.ref A.v, .int p] (rNumbers V p) := by
 refine CalP.conv (d := ?d) ?hc ?he
 rotate_left
 case hc =>
  refine CalP.fn (es := [.ref A.v, .int p]) [Str.ofString "view", Str.ofString "at"] (by ktr_unf) (by ktr_unf) (fun B T s vs k i => BindsTo.two (fun a b => rfl) i) (fun L hL => ?_)
  tb_start
 rfl
theorem EvP.methB {env : Env} {m : Loc} {G : Gd} {o e : Expr} {name : Str} {apos : Pos} {rest : List Expr} {pos : Pos} {T id : String} {a : Addr} {ds : List D} {d : D} {pl : Sem Bool} (pa : PlainAttrs T) (slot : Slot T name id) (hty : typeOf (.builtin id) = pure (.type "method_descriptor"))
  (h : EvP G n env m H o (.ref a)) (there : ∀ B h, TopOk G B → Sat G B (H.set env.locals (.ns m)) h → ∃ ob, h.get? a = some ob ∧ ob.cls = .type T ∧ ob.dict = none) (h2 : EvPL G n env m H pos (e :: rest) ds) (h3 : CalP G n H (.builtin id) (.ref a :: ds) d)
  (he : autoParam (MCall env o name apos (e :: rest) pos pl) aR) (hs : autoParam (starEach (e :: rest) env = (false, eval e env) :: starEach rest env) aR) (hp : autoParam ((backTo pos (starEach rest env)).any (·.1) = false) aR) :
  EvP G n env m H (.Call (.Attribute o name apos) (e :: rest) [] pos) d := ⟨Ev.methB pa slot hty (h.to ⟨a, rfl, there, h2.to h3.h⟩) he hs hp⟩
theorem top_thereT {env : Env} {m : Loc} {G : Gd} {a : Addr} {T : String} {dt : Data} {sl : Array (Option Value)} (ho : G.K.lookup a = some ⟨.type T, none, dt, sl⟩) : ∀ B h, TopOk G B → Sat G B (H.set env.locals (.ns m)) h → ∃ ob, h.get? a = some ob ∧ ob.cls = .type T ∧ ob.dict = none :=
 fun B h T' S => ⟨_, S.keep _ _ (T'.k _ _ ho), rfl, rfl⟩
noncomputable def jamo (a : Str) : Bool := inl a ["JL", "JV", "H2", "JT", "H3"]
theorem jamo_get {a : Str} (h : jamo a = false) (x1 x2 x3 x4 x5 : D) : kget (.inl a) [(ss "JL", x1), (ss "JV", x2), (ss "H2", x3), (ss "JT", x4), (ss "H3", x5)] = none := by
 unfold jamo inl at h
 simp only [List.any_cons, List.any_nil, Bool.or_eq_false_iff, beq_eq_false_iff_ne] at h
 simp [kget, kt, h]
theorem rule_syllables_ok (hV : View H A V) (p : Int) (hj : jamo (V.W (p - 1)) = false) : CalP (mkG w mg mb lo) (n + 6) H (.ref 301) [.ref A.v, .int p] (rSyll (V.W (p - 1)) (V.W p)) := by
 refine CalP.conv (d := ?d) ?hc ?he
 rotate_left
 case hc =>
  refine CalP.fn (es := [.ref A.v, .int p]) [Str.ofString "view", Str.ofString "at"] (by ktr_unf) (by ktr_unf) (fun B T s vs k i => BindsTo.two (fun a b => rfl) i) (fun L hL => ?_)
  refine' ExP.asgS2 ?a1 ?a2
  case a1 => tb_start
  case a2 =>
   refine' ExP.iteR (x := false) (d1 := .none) ?b1 (fun h => by cases h) (fun _ => ?b3)
   case b3 => tb_start
   case b1 =>
    refine' EvPB.cmp (d2 := .tup []) (EvP.loc rfl) ?c1 CmpP.inT
    case c1 =>
     refine' EvP.methB (T := "dict") (id := "dict.get") PySem.F.plainAttrs_dict PySem.F.slot_dict_get PySem.F.type_dict_get ?f1 ?f2 (EvPL.cons (EvP.loc rfl) (EvPL.cons (EvP.tup EvPL.nil) EvPL.nil)) ?f3
     case f1 => exact EvP.glob (by ktr_unf) IsTop.ref
     case f2 => exact top_thereT (by ktr_unf)
     case f3 =>
      refine' ⟨Cal.dget2 (k := .inl _) (DctAt.top ?g1 ?g2 (by decide)) ⟨?g3, rfl⟩⟩
      case g1 => ktr_unf
      case g2 => exact EntTop.str (IsTop.tup (by ktr_unf) rfl) (EntTop.str (IsTop.tup (by ktr_unf) rfl) (EntTop.str (IsTop.tup (by ktr_unf) rfl) (EntTop.str (IsTop.tup (by ktr_unf) rfl) (EntTop.str (IsTop.tup (by ktr_unf) rfl) EntTop.nil))))
      case g3 => exact (congrArg (Option.getD · _) (jamo_get hj _ _ _ _ _))
 rfl
theorem rule_pictures_ok (hV : View H A V) (p : Int) (hE : is (V.W p) "EM" = false) (hR : is (V.W (p - 1)) "RI" = false) : CalP (mkG w mg mb lo) (n + 6) H (.ref 329) [.ref A.v, .int p] (rPict (V.W (p - 1)) (V.W p) V.keep) := by
 refine CalP.conv (d := ?d) ?hc ?he
 rotate_left
 case hc =>
  refine CalP.fn (es := [.ref A.v, .int p]) [Str.ofString "view", Str.ofString "at"] (by ktr_unf) (by ktr_unf) (fun B T s vs k i => BindsTo.two (fun a b => rfl) i) (fun L hL => ?_)
  refine' ExP.asgS2 ?a1 ?a2
  case a1 => tb_start
  case a2 =>
   refine' ExP.iteR (x := false) (d1 := .none) ?b1 (fun h => by cases h) (fun _ => ?b3)
   case b1 =>
    refine' EvPB.and (a := false) (b := false) ?b4 (fun h => by cases h)
    case b4 => rw [← hR]; tb_start
   case b3 =>
    refine' ExP.iteF (x := false) (d1 := .none) ?c1 (fun h => by cases h) (fun _ => ?c3)
    case c1 => rw [← hE]; tb_start
    case c3 => tb_start
 rfl
end
section
variable {w : World} {mg mb : Str → Option Value} {lo : Lo} {n : Nat} {H : Hp} {A : VA} {V : Vw} {lb gc ea : Int → Str}
theorem ntl_or {x y : D} (a : ntl x = true) (b : ntl y = true) : ntl (vOr x y) = true := by unfold vOr; cases truth x <;> assumption
theorem ntl_m (a : Str) (b : Str) : ntl (.tup [.str a, .str b]) = true := by rfl
theorem ntl_n : ntl .none = true := rfl
theorem ntl_hard (a b : Str) : ntl (rHard a b) = true := by unfold rHard; repeat' first | exact ntl_m _ _ | exact ntl_n | apply ntl_bif
theorem ntl_spaces (b s : Str) (j : Bool) : ntl (rSpaces b s j) = true := by unfold rSpaces; repeat' first | exact ntl_m _ _ | exact ntl_n | apply ntl_bif
theorem ntl_glue (a b : Str) : ntl (rGlue a b) = true := by unfold rGlue; repeat' first | exact ntl_m _ _ | exact ntl_n | apply ntl_bif
theorem ntl_closing (a b s k : Str) : ntl (rClosing a b s k) = true := by unfold rClosing; repeat' first | exact ntl_m _ _ | exact ntl_n | apply ntl_bif
theorem ntl_quotes (V : Vw) (gc : Int → Str) (p : Int) : ntl (rQuotes V gc p) = true := by unfold rQuotes; repeat' first | exact ntl_m _ _ | exact ntl_n | apply ntl_bif
theorem ntl_over (a b s : Str) : ntl (rOver a b s) = true := by unfold rOver; repeat' first | exact ntl_m _ _ | exact ntl_n | apply ntl_bif
theorem ntl_signs (a b s k : Str) : ntl (rSigns a b s k) = true := by unfold rSigns; repeat' first | exact ntl_m _ _ | exact ntl_n | apply ntl_bif
theorem ntl_letters (a b : Str) : ntl (rLetters a b) = true := by unfold rLetters; repeat' first | exact ntl_m _ _ | exact ntl_n | apply ntl_bif
theorem ntl_expr (V : Vw) (p : Int) : ntl (rExpr V p) = true := by unfold rExpr; repeat' first | exact ntl_m _ _ | exact ntl_n | apply ntl_bif
theorem ntl_numbers (V : Vw) (p : Int) : ntl (rNumbers V p) = true := by unfold rNumbers; repeat' first | exact ntl_m _ _ | exact ntl_n | exact ntl_expr V p | apply ntl_bif
theorem ntl_syll (a b : Str) : ntl (rSyll a b) = true := by unfold rSyll; repeat' first | exact ntl_m _ _ | exact ntl_n | apply ntl_bif
theorem ntl_aksaras (V : Vw) (p : Int) : ntl (rAksaras V p) = true := by unfold rAksaras; repeat' first | exact ntl_m _ _ | exact ntl_n | apply ntl_bif
theorem ntl_brackets (V : Vw) (ea : Int → Str) (p : Int) : ntl (rBrackets V ea p) = true := by unfold rBrackets; repeat' first | exact ntl_m _ _ | exact ntl_n | apply ntl_bif
theorem ntl_pict (a b : Str) (k : Bool) : ntl (rPict a b k) = true := by unfold rPict; repeat' first | exact ntl_m _ _ | exact ntl_n | apply ntl_bif
local macro_rules | `(tactic| tb_rel) => `(tactic| first | ((show EvP ..); (refine' EvP.callD ?g1 (EvP.glob (by ktr_unf) IsTop.ref) ?_ ?_; (case g1 => ktr_unf))))
local macro_rules | `(tactic| tb_rel) => `(tactic| first | ((show CalP ..); first
 | exact rule_hard_ok (by assumption) _
 | exact rule_spaces_ok (by assumption) _ (by assumption) (by assumption)
 | exact rule_glue_ok (by assumption) _
 | exact rule_closing_ok (by assumption) _ (by assumption) (by assumption)
 | exact CalP.le (rule_quotes_ok (by assumption) (by assumption) (by assumption) _ (by assumption) (by assumption)) (by one_sign)
 | exact rule_over_ok (by assumption) _ (by assumption) (by assumption)
 | exact rule_signs_ok (by assumption) _
 | exact rule_letters_ok (by assumption) _
 | exact rule_numbers_ok (by assumption) _ (by assumption) (by assumption)
 | exact rule_syllables_ok (by assumption) _ (by assumption)
 | exact rule_aksaras_ok (by assumption) _
 | exact CalP.le (rule_brackets_ok (by assumption) (by assumption) (by assumption) _ (by assumption) (by assumption)) (by one_sign)
 | exact rule_pictures_ok (by assumption) _ (by assumption) (by assumption)))
local macro_rules | `(tactic| tb_rel) => `(tactic| first | ((show EvP _ _ _ _ _ (Expr.BoolOp BoolOp.Or (_ :: _ :: _) _) _); (refine' EvP.or ?x0 ?n0 ?_; (case x0 => tb_start); (case n0 => ktr_rel))))
local macro_rules | `(tactic| ktr_rel) => `(tactic| repeat' first | exact ntl_hard _ _ | exact ntl_spaces _ _ _ | exact ntl_glue _ _ | exact ntl_closing _ _ _ _ | exact ntl_quotes _ _ _ | exact ntl_over _ _ _ | exact ntl_signs _ _ _ _ | exact ntl_letters _ _ | exact ntl_numbers _ _ | exact ntl_syll _ _ | exact ntl_aksaras _ _ | exact ntl_brackets _ _ _ | exact ntl_pict _ _ _ | exact ntl_m _ _ | apply ntl_or)
theorem verdict_ok (hV : View H A V) (hD : DatOk (mkG w mg mb lo) (n + 3) H A.da lb gc ea) (hc : V.codes) (p : Int) (h0 : 1 ≤ p) (h1 : p < V.us.length) (hj : jamo (V.W (p - 1)) = false) (hE : is (V.W p) "EM" = false) (hR : is (V.W (p - 1)) "RI" = false) :
  CalP (mkG w mg mb lo) (n + 8) H (.ref 336) [.ref A.v, .int p] (verdict V gc ea p) := by
 refine CalP.conv (d := ?d) ?hc ?he
 rotate_left
 case hc =>
  refine CalP.fn (es := [.ref A.v, .int p]) [Str.ofString "view", Str.ofString "at"] (by ktr_unf) (by ktr_unf) (fun B T s vs k i => BindsTo.two (fun a b => rfl) i) (fun L hL => ?_)
  refine' ExP.asg ?a1 ?a2
  case a1 => tb_start
  case a2 =>
   refine' ExP.asg ?b1 ?b2
   case b1 => tb_start
   case b2 =>
    refine' ExP.asg ?c1 ?c2
    case c1 => tb_start
    case c2 =>
     refine' ExP.asg ?d1 ?d2
     case d1 => tb_start
     case d2 => tb_start
 rfl
end
noncomputable def half (f : List Int) (x : Int) : Nat → Int → Int → Int
 | 0, lo, _ => lo - 1
 | k + 1, lo, hi => if lo < hi then (if f.getD ((lo + hi).fdiv 2).toNat 0 ≤ x then half f x k ((lo + hi).fdiv 2 + 1) hi else half f x k lo ((lo + hi).fdiv 2)) else lo - 1
noncomputable def halfP (f : List Int) (x : Int) : Int := half f x (f.length + 1) 0 f.length
theorem mid_ok {lo hi : Int} (h : lo < hi) : lo ≤ (lo + hi).fdiv 2 ∧ (lo + hi).fdiv 2 < hi := by
 rw [Int.fdiv_eq_ediv_of_nonneg _ (by decide)]; one_sign
theorem half_bounds (f : List Int) (x : Int) : ∀ (k : Nat) (lo hi : Int), 0 ≤ lo → lo ≤ hi → hi ≤ f.length → hi - lo < k → -1 ≤ half f x k lo hi ∧ half f x k lo hi < f.length
 | 0, lo, hi, a, b, c, d => by one_sign
 | k + 1, lo, hi, a, b, c, d => by
  unfold half
  split
  ·rename_i h
   obtain ⟨h1, h2⟩ := mid_ok h
   split
   ·exact half_bounds f x k _ hi (by one_sign) (by one_sign) c (by one_sign)
   ·exact half_bounds f x k lo _ a h1 (by one_sign) (by one_sign)
  ·one_sign
theorem half_nonneg (f : List Int) (x : Int) (h0 : f.getD 0 0 ≤ x) : ∀ (k : Nat) (lo hi : Int), 0 ≤ lo → lo ≤ hi → hi ≤ f.length → hi - lo < k → (hi = 0 → False) → 0 ≤ half f x k lo hi
 | 0, lo, hi, a, b, c, d, e => by one_sign
 | k + 1, lo, hi, a, b, c, d, e => by
  unfold half
  split
  ·rename_i h
   obtain ⟨h1, h2⟩ := mid_ok h
   split
   ·exact half_nonneg f x h0 k _ hi (by one_sign) (by one_sign) c (by one_sign) (by one_sign)
   ·rename_i g
    refine half_nonneg f x h0 k lo _ a h1 (by one_sign) (by one_sign) fun z => ?_
    rw [z] at g; exact g h0
  ·have : hi ≠ 0 := e
   one_sign
theorem halfP_lt (f : List Int) (x : Int) : -1 ≤ halfP f x ∧ halfP f x < f.length := half_bounds f x _ _ _ (Int.le_refl _) (by one_sign) (Int.le_refl _) (by one_sign)
theorem halfP_nonneg (f : List Int) (x : Int) (h : f ≠ []) (h0 : f.getD 0 0 ≤ x) : 0 ≤ halfP f x := half_nonneg f x h0 _ _ _ (Int.le_refl _) (by one_sign) (Int.le_refl _) (by one_sign) (by
 intro z; apply h; exact List.length_eq_zero_iff.mp (by one_sign))
section
variable {w : World} {mg mb : Str → Option Value} {lo : Lo} {n : Nat} {H : Hp}
theorem place_by_half_ok {l : Addr} {f : List Int} (hl : H l = some (.lst (f.map .int))) (hz : f.length < 2 ^ 20) (x : Int) : CalP (mkG w mg mb lo) (n + 1) H (.ref 61) [.ref l, .int x] (.int (halfP f x)) := by
 refine CalP.fn (es := [.ref l, .int x]) [Str.ofString "firsts", Str.ofString "number"] (by ktr_unf) (by ktr_unf) (fun B T s vs k i => BindsTo.two (fun a b => rfl) i) (fun L hL => ⟨?_⟩)
 refine Ex.asg (EvP.cint.to (Asg.name ?_))
 refine Ex.asg (EvP.to (EvP.callB (id := "len") (by ktr_unf) rfl (EvPL.cons (EvP.loc rfl) EvPL.nil) (CalP.lenL hl (by simp; one_sign))) (Asg.name ?_))
 refine Ex.while' (f.length + 1) (Whl.inv (fun k m H' => H' = H ∧ ∃ lo hi : Int, 0 ≤ lo ∧ lo ≤ hi ∧ hi ≤ f.length ∧ hi - lo ≤ k ∧ m (Str.ofString "firsts") = some (.ref l) ∧ m (Str.ofString "number") = some (.int x) ∧ m (Str.ofString "low") = some (.int lo) ∧ m (Str.ofString "high") = some (.int hi) ∧ half f x (k + 1) lo hi = halfP f x) ?_ f.length
  ⟨rfl, 0, f.length, by one_sign, by one_sign, by one_sign, by one_sign, rfl, rfl, rfl, by simp [lset], rfl⟩)
 rintro k m H' ⟨e0, lo, hi, h1, h2, h3, h4, m1, m2, m3, m4, e⟩
 rw [e0]; clear e0
 refine (EvPB.cmp (EvP.loc m3) (EvP.loc m4) CmpP.lt).to ⟨fun hb => ?_, fun hb => ?_⟩
 ·have hlt := of_decide_eq_true hb
  obtain ⟨g1, g2⟩ := mid_ok hlt
  have hp : ((lo + hi).fdiv 2).toNat < f.length := by one_sign
  have hx : (f.map D.int)[((lo + hi).fdiv 2).toNat]? = some (.int (f.getD ((lo + hi).fdiv 2).toNat 0)) := by simp [hp, List.getD_eq_getElem?_getD]
  unfold half at e
  rw [if_pos hlt] at e
  refine Ex.asg (EvP.to (EvP.bin (EvP.bin (EvP.loc m3) (EvP.loc m4) BinP.add) EvP.cint (BinP.div (by decide) ?dv)) (Asg.name ?_))
  case dv => exact PyProof.noPylong_small (by decide)
  refine Ex.ite ((EvPB.cmp (EvP.item (EvP.loc (lset_get (by decide) m1)) (EvP.loc lset_self) (ItemP.lst hl (by one_sign) hx (by simp; one_sign))) (EvP.loc (lset_get (by decide) m2)) CmpP.lte).to ⟨fun hc => ?_, fun hc => ?_⟩)
  ·refine Ex.asg (EvP.to (EvP.bin (EvP.loc lset_self) EvP.cint BinP.add) (Asg.name (Ex.nil ?_)))
   rw [if_pos (of_decide_eq_true hc)] at e
   refine Ex.nil ⟨k - 1, by one_sign, rfl, _, hi, ?_, ?_, h3, ?_, lset_get (by decide) (lset_get (by decide) m1), lset_get (by decide) (lset_get (by decide) m2), lset_self, lset_get (by decide) (lset_get (by decide) m4), ?_⟩
   ·one_sign
   ·one_sign
   ·one_sign
   ·rw [show k - 1 + 1 = k by one_sign]; exact e
  ·refine Ex.asg (EvP.to (EvP.loc lset_self) (Asg.name (Ex.nil ?_)))
   rw [if_neg (of_decide_eq_false hc)] at e
   refine Ex.nil ⟨k - 1, by one_sign, rfl, lo, _, h1, ?_, ?_, ?_, lset_get (by decide) (lset_get (by decide) m1), lset_get (by decide) (lset_get (by decide) m2), lset_get (by decide) (lset_get (by decide) m3), lset_self, ?_⟩
   ·one_sign
   ·one_sign
   ·one_sign
   ·rw [show k - 1 + 1 = k by one_sign]; exact e
 ·have hlt := of_decide_eq_false hb
  refine Ex.ret (EvP.to (EvP.bin (EvP.loc m3) EvP.cint BinP.sub) ⟨?_, rfl⟩)
  unfold half at e
  rw [if_neg hlt] at e
  rw [← e]
end
structure RM where
 st : List Int
 vs : List Str
 df : Str
noncomputable def RM.at (M : RM) (c : Int) : Str := (M.vs[(halfP M.st c).toNat]?).getD ⟨#[]⟩
structure RM.Ok (M : RM) : Prop where
 len : M.st.length = M.vs.length
 big : M.st.length < 1000
 ne : M.st ≠ []
 z : M.st.getD 0 0 = 0
noncomputable def rmD (M : RM) (s v : Addr) : List (D × D) := [(ss "default", .str M.df), (ss "starts", .ref s), (ss "values", .ref v)]
structure RMat (H : Hp) (r : Addr) (M : RM) (rx s v : Addr) : Prop where
 r : H r = some (.ins 488 rx)
 x : H rx = some (.dct (rmD M s v))
 s : H s = some (.lst (M.st.map .int))
 v : H v = some (.lst (M.vs.map .str))
theorem RMat.sub {H H' : Hp} {r rx s v : Addr} {M : RM} (h : RMat H r M rx s v) (S : Sub H H') : RMat H' r M rx s v := ⟨S _ _ h.r, S _ _ h.x, S _ _ h.s, S _ _ h.v⟩
structure DF (l : List (D × D)) : Prop where
 lb : kget (.inl (Str.ofString "lb")) l = some (ss "XX")
 gc : kget (.inl (Str.ofString "gc")) l = some (ss "Cn")
 ea : kget (.inl (Str.ofString "ea")) l = some (ss "N")
noncomputable def dtD (a1 a2 a3 a4 : Addr) : List (D × D) := [(ss "defaults", .ref a1), (ss "maps", .ref a2), (ss "properties", .ref a3), (ss "words", .ref a4)]
noncomputable def mapsD (rs : List (Str × Addr × RM)) : List (D × D) := rs.map fun p => (.str p.1, .ref p.2.1)
structure DataAt (H : Hp) (da : Addr) (rs : List (Str × Addr × RM)) : Prop where
 ex : ∃ dx a1 a2 a3 a4 dl, H da = some (.ins 537 dx) ∧ H dx = some (.dct (dtD a1 a2 a3 a4)) ∧ H a1 = some (.dct dl) ∧ DF dl ∧ H a2 = some (.dct (mapsD rs))
 rm : ∀ p ∈ rs, p.2.2.Ok ∧ ∃ rx s v, RMat H p.2.1 p.2.2 rx s v
theorem DataAt.sub {H H' : Hp} {da : Addr} {rs : List (Str × Addr × RM)} (h : DataAt H da rs) (S : Sub H H') : DataAt H' da rs := by
 obtain ⟨⟨dx, a1, a2, a3, a4, dl, e1, e2, e3, e4, e5⟩, h2⟩ := h
 exact ⟨⟨dx, a1, a2, a3, a4, dl, S _ _ e1, S _ _ e2, S _ _ e3, e4, S _ _ e5⟩, fun p hp => let ⟨a, rx, s, v, b⟩ := h2 p hp; ⟨a, rx, s, v, b.sub S⟩⟩
theorem mapsD_get (k : Str) : ∀ rs : List (Str × Addr × RM), kget (.inl k) (mapsD rs) = (rs.lookup k).map fun p => .ref p.1
 | [] => rfl
 | (k', r, M) :: rs => by
  have ih := mapsD_get k rs
  show kget (.inl k) ((.str k', .ref r) :: mapsD rs) = _
  unfold kget
  rw [List.lookup_cons]
  by_cases q : k' = k
  ·subst q; simp [kt]
  ·have e : (k == k') = false := by rw [beq_eq_false_iff_ne]; exact fun z => q z.symm
   simp [kt, q, e, ih]
theorem lookup_mem {α β : Type} [BEq α] [LawfulBEq α] {k : α} {v : β} : ∀ {l : List (α × β)}, l.lookup k = some v → (k, v) ∈ l
 | (k', v') :: l, h => by
  rw [List.lookup_cons] at h
  cases e : k == k' with
  | true => rw [e] at h; cases h; rw [beq_iff_eq.mp e]; exact .head _
  | false => rw [e] at h; exact .tail _ (lookup_mem h)
noncomputable def datW (rs : List (Str × Addr × RM)) (k d : Str) (c : Int) : Str := match rs.lookup k with
 | some p => p.2.at c
 | none => d
section
variable {w : World} {mg mb : Str → Option Value} {lo : Lo} {n : Nat} {H : Hp}
theorem CmpP.inD {G : Gd} {a : Addr} {l : List (D × D)} {k : Ky} (h : DctAt G H a l) : CmpP G n H .In (kd k) (.ref a) (kget k l).isSome := ⟨Cmp.inD h ⟨rfl, rfl⟩⟩
theorem CmpP.ninD {G : Gd} {a : Addr} {l : List (D × D)} {k : Ky} (h : DctAt G H a l) : CmpP G n H .NotIn (kd k) (.ref a) (!(kget k l).isSome) := ⟨Cmp.ninD h ⟨rfl, rfl⟩⟩
theorem ItemP.dct {G : Gd} {a : Addr} {l : List (D × D)} {k : Ky} {d : D} (h : DctAt G H a l) (hd : kget k l = some d) : ItemP G n H (.ref a) (kd k) d := ⟨Item.dct h hd ⟨rfl, rfl⟩⟩
theorem CalP.dget {G : Gd} {a : Addr} {l : List (D × D)} {k : Ky} (h : DctAt G H a l) : CalP G n H (.builtin "dict.get") [.ref a, kd k] ((kget k l).getD .none) := ⟨Cal.dget h ⟨rfl, rfl⟩⟩
theorem dct_there {G : Gd} {env : Env} {m : Loc} {a : Addr} {l : List (D × D)} (h : H a = some (.dct l)) : ∀ B h', TopOk G B → Sat G B (H.set env.locals (.ns m)) h' → H env.locals = none → ∃ ob, h'.get? a = some ob ∧ ob.cls = .type "dict" ∧ ob.dict = none :=
 fun B h' T S hL => dict_there hL h B h' T S
theorem EvP.dget {G : Gd} {env : Env} {m : Loc} {o e : Expr} {apos : Pos} {pos : Pos} {a : Addr} {l : List (D × D)} {k : Ky} {pl : Sem Bool} (hL : H env.locals = none) (h : EvP G n env m H o (.ref a)) (hd : H a = some (.dct l)) (h2 : EvP G n env m H e (kd k))
  (he : autoParam (MCall env o (Str.ofString "get") apos [e] pos pl) aR) (hs : autoParam (starEach (e :: []) env = (false, eval e env) :: starEach [] env) aR) :
  EvP G n env m H (.Call (.Attribute o (Str.ofString "get") apos) [e] [] pos) ((kget k l).getD .none) :=
 EvP.methB PySem.F.plainAttrs_dict PySem.F.slot_dict_get PySem.F.type_dict_get h (fun B h' T S => dct_there hd B h' T S hL) (EvPL.cons h2 EvPL.nil hs) (CalP.dget (DctAt.own hd)) he hs
theorem rm_get_ok {r rx s v : Addr} {M : RM} (h : RMat H r M rx s v) (hM : M.Ok) (c : Int) (hc : 0 ≤ c) : CalP (mkG w mg mb lo) (n + 2) H (.ref 464) [.ref r, .int c] (.str (M.at c)) := by
 have b0 := halfP_nonneg M.st c hM.ne (by rw [hM.z]; exact hc)
 have b1 := (halfP_lt M.st c).2
 have l0 := hM.len
 have l1 := hM.big
 have hx : (M.vs.map D.str)[(halfP M.st c).toNat]? = some (.str (M.at c)) := by
  have : (halfP M.st c).toNat < M.vs.length := by one_sign
  unfold RM.at; simp [this]
 refine CalP.fn (es := [.ref r, .int c]) [Str.ofString "self", Str.ofString "code"] (by ktr_unf) (by ktr_unf) (fun B T s vs k i => BindsTo.two (fun a b => rfl) i) (fun L hL => ?_)
 refine ExP.ret (EvP.item (EvP.attr (EvP.loc rfl) (gp_RangeMap_values h.r h.x rfl)) (EvP.callD (f := 61) (by ktr_unf) (EvP.glob (by ktr_unf) IsTop.ref) (EvPL.cons (EvP.attr (EvP.loc rfl) (gp_RangeMap_starts h.r h.x rfl)) (EvPL.cons (EvP.loc rfl) EvPL.nil)) (place_by_half_ok h.s (by one_sign) c)) (ItemP.lst h.v b0 hx (by simp; one_sign)))
theorem data_get_ok {da : Addr} {rs : List (Str × Addr × RM)} (h : DataAt H da rs) (k : Str) (d : Str) (hd : ∀ l, DF l → kget (.inl k) l = some (.str d)) (c : Int) (hc : 0 ≤ c) : CalP (mkG w mg mb lo) (n + 3) H (.ref 527) [.ref da, .str k, .int c] (.str (datW rs k d c)) := by
 obtain ⟨⟨dx, a1, a2, a3, a4, dl, e1, e2, e3, e4, e5⟩, h2⟩ := h
 have hm := mapsD_get k rs
 have g1 : ∀ {n : Nat}, GetP (mkG w mg mb lo) n H (.ref da) (Str.ofString "maps") (.ref a2) := gp_Data_maps e1 e2 rfl
 refine CalP.fn (es := [.ref da, .str k, .int c]) [Str.ofString "self", Str.ofString "name", Str.ofString "code"] (by ktr_unf) (by ktr_unf) (fun B T s vs k i => BindsTo.three (fun a b c => rfl) i) (fun L hL => ?_)
 cases q : rs.lookup k with
 | some p =>
  obtain ⟨r, M⟩ := p
  rw [q] at hm
  obtain ⟨hM, rx, s, v, hR⟩ := h2 _ (lookup_mem q)
  refine ExP.conv (d := .str (M.at c)) ?_ (by unfold datW; rw [q])
  refine ExP.conv (d := bif (kget (.inl k) (mapsD rs)).isSome then .str (M.at c) else .none) ?_ (by rw [hm]; rfl)
  refine ExP.iteR (EvPB.cmp (EvP.loc rfl) (EvP.attr (EvP.loc rfl) g1) (CmpP.inD (k := .inl k) (DctAt.own e5))) (fun _ => ?_) (fun z => absurd z (by rw [hm]; simp))
  refine ExP.ret (EvP.meth (C := 488) hR.r hR.x rfl me_RangeMap_get.1 me_RangeMap_get.2.1 me_RangeMap_get.2.2.1 me_RangeMap_get.2.2.2 (EvP.item (EvP.attr (EvP.loc rfl) g1) (EvP.loc rfl) (ItemP.dct (k := .inl k) (DctAt.own e5) hm)) (EvPL.cons (EvP.loc rfl) EvPL.nil) (rm_get_ok hR hM c hc))
 | none =>
  rw [q] at hm
  refine ExP.conv (d := bif (kget (.inl k) (mapsD rs)).isSome then .none else (kget (.inl k) dl).getD .none) ?_ (by rw [hm, hd dl e4]; unfold datW; rw [q]; rfl)
  refine ExP.iteR (EvPB.cmp (EvP.loc rfl) (EvP.attr (EvP.loc rfl) g1) (CmpP.inD (k := .inl k) (DctAt.own e5))) (fun z => absurd z (by rw [hm]; simp)) (fun _ => ?_)
  exact ExP.ret (EvP.dget hL (EvP.attr (EvP.loc rfl) (gp_Data_defaults e1 e2 rfl)) e3 (EvP.loc rfl))
theorem DataAt.dat {da : Addr} {rs : List (Str × Addr × RM)} (h : DataAt H da rs) : DatOk (mkG w mg mb lo) (n + 3) H da (datW rs (Str.ofString "lb") (Str.ofString "XX")) (datW rs (Str.ofString "gc") (Str.ofString "Cn")) (datW rs (Str.ofString "ea") (Str.ofString "N")) := by
 have h' := h
 obtain ⟨⟨dx, a1, a2, a3, a4, dl, e1, e2, e3, e4, e5⟩, h2⟩ := h'
 exact ⟨⟨dx, _, e1, e2, rfl⟩, fun c hc => data_get_ok h _ _ (fun l h => h.lb) c hc, fun c hc => data_get_ok h _ _ (fun l h => h.gc) c hc, fun c hc => data_get_ok h _ _ (fun l h => h.ea) c hc⟩
end
noncomputable def okW (x : Str) : Bool := !(inl x ["AI", "SG", "XX"]) && !(is x "SA") && !(is x "CJ") && !(inl x ["CM", "ZWJ"])
section
variable {w : World} {mg mb : Str → Option Value} {lo : Lo} {n : Nat} {H : Hp} {lb gc ea : Int → Str}
theorem line_class_ok {da hw dh : Addr} {S N : Str} {kp : Bool} (hD : DatOk (mkG w mg mb lo) (n + 3) H da lb gc ea) (c : Int) (hc : 0 ≤ c) (hw1 : H hw = some (.ins 122 dh)) (hw2 : H dh = some (.dct [(ss "strictness", .str S), (ss "keep_all", .bool kp), (ss "numbers", .str N)]))
  (hS : is S "strict" = true) (hk : okW (lb c) = true) : CalP (mkG w mg mb lo) (n + 4) H (.ref 140) [.int c, .ref da, .ref hw] (.str (lb c)) := by
 obtain ⟨dd, l, a, b, z⟩ := hD.inst
 unfold okW at hk
 simp only [Bool.and_eq_true, Bool.not_eq_true'] at hk
 obtain ⟨⟨⟨k1, k2⟩, k3⟩, k4⟩ := hk
 have hS' : S = Str.ofString "strict" := beq_iff_eq.mp hS
 refine CalP.fn (es := [.int c, .ref da, .ref hw]) [Str.ofString "code", Str.ofString "data", Str.ofString "how"] (by ktr_unf) (by ktr_unf) (fun B T s vs k i => BindsTo.three (fun a b c => rfl) i) (fun L hL => ?_)
 refine ExP.asg (EvP.meth (C := 537) a b z me_Data_get.1 me_Data_get.2.1 me_Data_get.2.2.1 me_Data_get.2.2.2 (EvP.loc rfl) (EvPL.cons EvP.cstr (EvPL.cons (EvP.loc rfl) EvPL.nil)) ((hD.lb c hc).le (by one_sign))) ?_
 refine ExP.iteR (x := false) (d1 := .none) ?t1 (fun h => by cases h) (fun _ => ?_)
 case t1 => rw [← k1]; tb_start
 refine ExP.iteR (x := false) (d1 := .none) ?t2 (fun h => by cases h) (fun _ => ?_)
 case t2 => rw [← k2]; tb_start
 refine ExP.iteR (x := false) (d1 := .none) ?t3 (fun h => by cases h) (fun _ => ?_)
 case t3 => rw [← k3]; tb_start
 refine ExP.iteR (x := false) (d1 := .none) ?t4 (fun h => by cases h) (fun _ => ?_)
 case t4 =>
  refine EvPB.conv (b := is (lb c) "NS" && (false && false)) ?_ (by simp)
  refine EvPB.and ?t5 (fun _ => ?t6)
  case t5 => tb_start
  case t6 =>
   refine EvPB.and (a := false) (b := false) ?t7 (fun h => by cases h)
   case t7 =>
    refine EvPB.conv (b := deq (.str S) (.str (Str.ofString "loose"))) ?_ (by rw [hS']; decide)
    exact EvPB.cmp (EvP.attr (EvP.loc rfl) (gp_LineHow_strictness hw1 hw2 rfl)) EvP.cstr CmpP.eq
 exact ExP.ret (EvP.loc rfl)
noncomputable def inst (H : Hp) (x dx C : Addr) (l : List (D × D)) : Hp := (H.set dx (.dct l)).set x (.ins C dx)
theorem inst_x {H : Hp} {x dx C : Addr} {l : List (D × D)} : inst H x dx C l x = some (.ins C dx) := Hp.set_self ..
theorem inst_dx {H : Hp} {x dx C : Addr} {l : List (D × D)} (h : x ≠ dx) : inst H x dx C l dx = some (.dct l) := by unfold inst; rw [Hp.set_ne _ _ (Ne.symm h)]; exact Hp.set_self ..
theorem inst_set {H : Hp} {x dx C : Addr} {l l' : List (D × D)} (h : x ≠ dx) : (inst H x dx C l).set dx (.dct l') = inst H x dx C l' := by unfold inst; rw [Hp.set_comm _ _ _ h, Hp.set_set]
theorem inst_own {H : Hp} {x dx C : Addr} {l : List (D × D)} (h1 : H x = none) (h2 : H dx = none) (h : x ≠ dx) : Own H (inst H x dx C l) [(x, .ins C dx), (dx, .dct l)] :=
 ((Own.refl H).alloc h2).alloc ((Hp.set_ne _ _ h).trans h1)
theorem LineUnit_ok {W : Str} {c p : Int} {Q : D → Hp → Prop} (h : ∀ x dx, Own H (inst H x dx 157 (unitD ⟨W, c, p, false⟩)) [(x, .ins 157 dx), (dx, .dct (unitD ⟨W, c, p, false⟩))] → Q (.ref x) (inst H x dx 157 (unitD ⟨W, c, p, false⟩))) : CalC (mkG w mg mb lo) (n + 2) H (.ref 157) [.str W, .int c, .int p] Q := by
 refine CalC.cls (fI := 154) (by ktr_unf) (by ktr_unf) (by ktr_unf) (fun x dx hx hdx hne => ?_)
 refine CalC.fn (es := [.ref x, .str W, .int c, .int p]) [Str.ofString "self", Str.ofString "word", Str.ofString "code", Str.ofString "at"] (by ktr_unf) (by ktr_unf) (fun B T s vs k i => BindsTo.four (fun a b c d => rfl) i) (fun L hL => ?_)
 refine Ex.asgA ((EvP.loc rfl).to ((EvP.loc rfl).to (sa_LineUnit_word inst_x (inst_dx hne) (Nat.le_of_ble_eq_true rfl) ?_)))
 rw [show ((H.set dx (.dct [])).set x (.ins 157 dx)) = inst H x dx 157 [] from rfl, inst_set hne]
 refine Ex.asgA ((EvP.loc rfl).to ((EvP.loc rfl).to (sa_LineUnit_code inst_x (inst_dx hne) (Nat.le_of_ble_eq_true rfl) ?_)))
 rw [inst_set hne]
 refine Ex.asgA ((EvP.loc rfl).to ((EvP.loc rfl).to (sa_LineUnit_at inst_x (inst_dx hne) (Nat.le_of_ble_eq_true rfl) ?_)))
 rw [inst_set hne]
 refine Ex.asgA (EvP.cbool.to ((EvP.loc rfl).to (sa_LineUnit_is_joined inst_x (inst_dx hne) (Nat.le_of_ble_eq_true rfl) ?_)))
 rw [inst_set hne]
 exact Ex.nil ⟨rfl, h x dx (inst_own hx hdx hne)⟩
end
theorem enuL_inv {ds : List D} {i : Nat} {d : D} (h : (enuL ds)[i]? = some d) : ∃ e, ds[i]? = some e ∧ d = .tup [.int i, e] := by
 unfold enuL at h
 rw [List.getElem?_map, List.getElem?_zipIdx] at h
 cases e : ds[i]? with
 | none => rw [e] at h; simp at h
 | some x => rw [e] at h; simp at h; exact ⟨x, rfl, h.symm⟩
theorem map_inv {α : Type} {f : α → D} {l : List α} {i : Nat} {d : D} (h : (l.map f)[i]? = some d) : ∃ e, l[i]? = some e ∧ d = f e := by
 rw [List.getElem?_map] at h
 cases e : l[i]? with
 | none => rw [e] at h; simp at h
 | some x => rw [e] at h; simp at h; exact ⟨x, rfl, h.symm⟩
noncomputable def UnitsIn (L : List (Addr × X)) (lb : Int → Str) (codes : List Int) (xs : List Addr) : Prop :=
 ∀ (j : Nat) (x : Addr), xs[j]? = some x → ∃ c dx, codes[j]? = some c ∧ (x, X.ins 157 dx) ∈ L ∧ (dx, X.dct (unitD ⟨lb c, c, j, false⟩)) ∈ L
theorem UnitsIn.mono {L L' : List (Addr × X)} {lb : Int → Str} {codes : List Int} {xs : List Addr} (h : UnitsIn L lb codes xs) (s : ∀ p ∈ L, p ∈ L') : UnitsIn L' lb codes xs :=
 fun j x e => let ⟨c, dx, a, b, d⟩ := h j x e; ⟨c, dx, a, s _ b, s _ d⟩
theorem UnitsIn.snoc {L : List (Addr × X)} {lb : Int → Str} {codes : List Int} {xs : List Addr} {x dx : Addr} {c : Int} (h : UnitsIn L lb codes xs) (hc : codes[xs.length]? = some c) (h1 : (x, X.ins 157 dx) ∈ L) (h2 : (dx, X.dct (unitD ⟨lb c, c, xs.length, false⟩)) ∈ L) : UnitsIn L lb codes (xs ++ [x]) := fun j y e => by
 by_cases q : j < xs.length
 ·rw [List.getElem?_append_left q] at e; exact h j y e
 ·have : j = xs.length := by
   have := (List.getElem?_eq_some_iff.mp e).1
   simp at this; one_sign
  subst this
  simp at e; subst e
  exact ⟨c, dx, hc, h1, h2⟩
section
variable {w : World} {mg mb : Str → Option Value} {lo : Lo} {n : Nat} {H : Hp} {lb gc ea : Int → Str}
theorem line_units_ok {t da hw dh : Addr} {codes : List Int} {S N : Str} {kp : Bool} {Q : D → Hp → Prop} (ht : H t = some (.lst (codes.map .int))) (hz : codes.length ≤ 100)
  (hD : ∀ H', Sub H H' → DatOk (mkG w mg mb lo) (n + 3) H' da lb gc ea) (hw1 : H hw = some (.ins 122 dh)) (hw2 : H dh = some (.dct [(ss "strictness", .str S), (ss "keep_all", .bool kp), (ss "numbers", .str N)])) (hS : is S "strict" = true)
  (hc : ∀ c ∈ codes, 0 ≤ c ∧ okW (lb c) = true)
  (q : ∀ fa xs UL H', Own H H' ((fa, .lst (xs.map .ref)) :: UL) → UnitsIn UL lb codes xs → xs.length = codes.length → Q (.ref fa) H') : CalC (mkG w mg mb lo) (n + 5) H (.ref 168) [.ref t, .ref da, .ref hw] Q := by
 refine CalC.fn (es := [.ref t, .ref da, .ref hw]) [Str.ofString "text", Str.ofString "data", Str.ofString "how"] (by ktr_unf) (by ktr_unf) (fun B T s vs k i => BindsTo.three (fun a b c => rfl) i) (fun L hL => ?_)
 refine Ex.asg (Ev.lst (EvL.nil ⟨by decide, fun fa hfa _ => Asg.name ?_⟩))
 refine Ex.forEnum (by one_sign) (by ktr_unf) rfl (EvP.loc rfl) (Hp.keep hfa ht) rfl ?_
 refine Lp.inv (fun i m H' => ∃ xs UL, m (Str.ofString "found") = some (.ref fa) ∧ m (Str.ofString "data") = some (.ref da) ∧ m (Str.ofString "how") = some (.ref hw) ∧ Own H H' ((fa, .lst (xs.map .ref)) :: UL) ∧ UnitsIn UL lb codes xs ∧ xs.length = i) ?_ ?_ ⟨[], [], lset_self, rfl, rfl, (Own.refl H).alloc hfa, fun j x e => by simp at e, rfl⟩
 ·rintro i d m H' hi ⟨xs, UL, m1, m2, m3, o, u, rfl⟩
  obtain ⟨_, hi2, rfl⟩ := enuL_inv hi
  obtain ⟨c, hi3, rfl⟩ := map_inv hi2
  clear hi hi2
  have hcm := hc c (List.mem_of_getElem? hi3)
  have hlt : xs.length < codes.length := (List.getElem?_eq_some_iff.mp hi3).1
  refine ⟨o.sub _ _ ht, Asg.tup (AsgL.cons (Asg.name (AsgL.cons (Asg.name (AsgL.nil ?_)))))⟩
  have hk := hcm.2
  refine Ex.asg (EvP.to (EvP.callD (by ktr_unf) (EvP.glob (by ktr_unf) IsTop.ref) (EvPL.cons (EvP.loc lset_self) (EvPL.cons (EvP.loc (lset_get (by decide) (lset_get (by decide) m2))) (EvPL.cons (EvP.loc (lset_get (by decide) (lset_get (by decide) m3))) EvPL.nil))) (line_class_ok (hD _ o.sub) c hcm.1 (o.sub _ _ hw1) (o.sub _ _ hw2) hS hk)) (Asg.name ?_))
  refine Ex.iteP (x := true) ?tst (fun _ => ?_) (fun h => by cases h)
  case tst =>
   have hk2 : (!(inl (lb c) ["CM", "ZWJ"])) = true := by
    unfold okW at hk
    simp only [Bool.and_eq_true] at hk
    exact hk.2
   refine' EvPB.conv ?t1 ?t2
   case t1 => tb_start
   case t2 => exact hk2
  refine Ex.append (EvP.loc (lset_get (by decide) (lset_get (by decide) (lset_get (by decide) m1)))) (o.has _ (.head _)) ?_
  refine Ev.callG (by ktr_unf) (by ktr_unf) (EvPL.to (EvPL.cons (EvP.loc lset_self) (EvPL.cons (EvP.loc (lset_get (by decide) lset_self)) (EvPL.cons (EvP.loc (lset_get (by decide) (lset_get (by decide) lset_self))) EvPL.nil))) ?_)
  refine CalC.cal (CalC.le (LineUnit_ok (n := n) fun x dx o2 => ?_) (by one_sign))
  have o3 := o.trans o2
  refine ⟨_, o3.has (fa, _) (.tail _ (.tail _ (.head _))), by simp; rw [sizeLine_eq]; one_sign, ?_⟩
  have o4 := (o3.upd (y := .lst (xs.map .ref ++ [.ref x])) 2 rfl)
  refine Ex.cont ⟨xs ++ [x], (x, .ins 157 dx) :: (dx, .dct (unitD ⟨lb c, c, xs.length, false⟩)) :: UL, lset_get (by decide) (lset_get (by decide) (lset_get (by decide) m1)), lset_get (by decide) (lset_get (by decide) (lset_get (by decide) m2)), lset_get (by decide) (lset_get (by decide) (lset_get (by decide) m3)), ?_, ?_, by simp⟩
  ·rw [List.map_append]
   exact o4.perm (List.perm_middle (l₁ := [_, _]))
  ·exact (u.mono fun p hp => .tail _ (.tail _ hp)).snoc hi3 (.head _) (.tail _ (.head _))
 ·rintro m H' ⟨xs, UL, m1, m2, m3, o, u, hl⟩
  refine ⟨o.sub _ _ ht, Ex.ret (EvP.to (EvP.loc m1) (q fa xs UL H' o u (by rw [hl, enuL_len]; simp)))⟩
end
structure VS where
 last : Int
 many : Int
 num : Bool
noncomputable def stepV (k : Nat) (s : VS) (x : Str) : VS := ⟨bif is x "SP" then s.last else k, bif is x "RI" then s.many + 1 else 0, is x "NU" || (s.num && inl x INNER)⟩
noncomputable def stV (lb : Int → Str) (codes : List Int) : Nat → VS
 | 0 => ⟨-1, 0, false⟩
 | i + 1 => stepV i (stV lb codes i) (lb (codes.getD i 0))
noncomputable def mkV (lb : Int → Str) (codes : List Int) (S N : Str) (kp : Bool) : Vw :=
 { us := codes.mapIdx fun i c => ⟨lb c, c, i, false⟩, solid := (List.range codes.length).map fun i => (stV lb codes (i + 1)).last, regional := (List.range codes.length).map fun i => (stV lb codes (i + 1)).many, numeric := (List.range codes.length).map fun i => (stV lb codes (i + 1)).num, strict := S, keep := kp, nums := N }
noncomputable def howD (S N : Str) (kp : Bool) : List (D × D) := [(ss "strictness", .str S), (ss "keep_all", .bool kp), (ss "numbers", .str N)]
noncomputable def viewD (da hw fa so re nu : Addr) : List (D × D) := [(ss "data", .ref da), (ss "how", .ref hw), (ss "units", .ref fa), (ss "solid", .ref so), (ss "regional", .ref re), (ss "numeric", .ref nu)]
section
variable {w : World} {mg mb : Str → Option Value} {lo : Lo} {n : Nat} {H : Hp} {lb gc ea : Int → Str}
local macro_rules | `(tactic| tb_rel) => `(tactic| first | ((show EvP _ _ _ _ _ (Expr.Name _ _) _); (refine' EvP.loc ?l; (case l => ktr_rel))) | ((show EvP _ _ _ _ _ (Expr.Attribute _ _ _) _); (refine' EvP.attr ?l ?r; (case l => tb_start); (case r => tb_start))) | ((show GetP ..); exact gp_LineUnit_word (by assumption) (by assumption) rfl))
theorem mkV_len (lb : Int → Str) (codes : List Int) (S N : Str) (kp : Bool) : (mkV lb codes S N kp).us.length = codes.length := by simp [mkV]
theorem view_of {H' : Hp} {L : List (Addr × X)} {x dx fa so re nu da hw dh : Addr} {xs : List Addr} {codes : List Int} {S N : Str} {kp : Bool} (o : ∀ p ∈ L, H' p.1 = some p.2) (hz : codes.length ≤ 100)
  (h1 : (x, X.ins 213 dx) ∈ L) (h2 : (dx, X.dct (viewD da hw fa so re nu)) ∈ L) (h3 : (fa, X.lst (xs.map .ref)) ∈ L) (h4 : UnitsIn L lb codes xs) (h5 : xs.length = codes.length)
  (hw1 : H' hw = some (.ins 122 dh)) (hw2 : H' dh = some (.dct (howD S N kp)))
  (g1 : (so, X.lst ((List.range codes.length).map fun i => .int (stV lb codes (i + 1)).last)) ∈ L) (g2 : (re, X.lst ((List.range codes.length).map fun i => .int (stV lb codes (i + 1)).many)) ∈ L) (g3 : (nu, X.lst ((List.range codes.length).map fun i => .bool (stV lb codes (i + 1)).num)) ∈ L) :
  View H' ⟨x, dx, hw, dh, fa, so, re, nu, da, xs⟩ (mkV lb codes S N kp) where
 v := o _ h1
 dv := o _ h2
 ho := hw1
 dh := hw2
 un := o _ h3
 so := (o _ g1).trans (by simp [mkV, Function.comp_def])
 re := (o _ g2).trans (by simp [mkV, Function.comp_def])
 nu := (o _ g3).trans (by simp [mkV, Function.comp_def])
 unit := fun i u hu => by
  obtain ⟨c, d, a, b, e⟩ := h4 i u hu
  exact ⟨d, ⟨lb c, c, i, false⟩, by simp [mkV, a], o _ b, o _ e⟩
 len := by rw [mkV_len]; exact h5
 lso := by simp [mkV]
 lre := by simp [mkV]
 lnu := by simp [mkV]
 small := by rw [mkV_len]; exact hz
theorem range_snoc {f : Nat → D} {k : Nat} : ((List.range k).map f) ++ [f k] = (List.range (k + 1)).map f := by rw [List.range_succ, List.map_append]; rfl
theorem LineView_ok {t da hw dh : Addr} {codes : List Int} {S N : Str} {kp : Bool} {Q : D → Hp → Prop} (ht : H t = some (.lst (codes.map .int))) (hz : codes.length ≤ 100)
  (hD : ∀ H', Sub H H' → DatOk (mkG w mg mb lo) (n + 3) H' da lb gc ea) (hw1 : H hw = some (.ins 122 dh)) (hw2 : H dh = some (.dct (howD S N kp))) (hS : is S "strict" = true)
  (hc : ∀ c ∈ codes, 0 ≤ c ∧ okW (lb c) = true)
  (q : ∀ (A : VA) L H', A.da = da → Own H H' L → (∀ H'', (∀ p ∈ L, H'' p.1 = some p.2) → H'' hw = some (.ins 122 dh) → H'' dh = some (.dct (howD S N kp)) → View H'' A (mkV lb codes S N kp)) → Q (.ref A.v) H') : CalC (mkG w mg mb lo) (n + 7) H (.ref 213) [.ref t, .ref da, .ref hw] Q := by
 refine CalC.cls (fI := 182) (by ktr_unf) (by ktr_unf) (by ktr_unf) (fun x dx hx hdx hne => ?_)
 refine CalC.fn (es := [.ref x, .ref t, .ref da, .ref hw]) [Str.ofString "self", Str.ofString "text", Str.ofString "data", Str.ofString "how"] (by ktr_unf) (by ktr_unf) (fun B T s vs k i => BindsTo.four (fun a b c d => rfl) i) (fun L hL => ?_)
 have o0 : Own H ((H.set dx (.dct [])).set x (.ins 213 dx)) [(x, .ins 213 dx), (dx, .dct [])] := inst_own hx hdx hne
 revert o0 hL; generalize (H.set dx (.dct [])).set x (.ins 213 dx) = H0; intro hL o0
 refine Ex.asgA ((EvP.loc rfl).to ((EvP.loc rfl).to (sa_LineView_data (o0.get (.head _)) (o0.get (.tail _ (.head _))) (Nat.le_of_ble_eq_true rfl) ?_)))
 have o1 := o0.upd (y := .dct (sput (Str.ofString "data") (.ref da) [])) 1 rfl
 revert o1; generalize H0.set dx _ = H1; intro o1
 refine Ex.asgA ((EvP.loc rfl).to ((EvP.loc rfl).to (sa_LineView_how (o1.get (.head _)) (o1.get (.tail _ (.head _))) (Nat.le_of_ble_eq_true rfl) ?_)))
 have o2 := o1.upd (y := .dct (sput (Str.ofString "how") (.ref hw) (sput (Str.ofString "data") (.ref da) []))) 1 rfl
 revert o2; generalize H1.set dx _ = H2; intro o2
 refine Ex.asgA (Ev.callG (by ktr_unf) (by ktr_unf) (EvPL.to (EvPL.cons (EvP.loc rfl) (EvPL.cons (EvP.loc rfl) (EvPL.cons (EvP.loc rfl) EvPL.nil))) ?_))
 refine CalC.cal (line_units_ok (o2.sub _ _ ht) hz (fun H' s => hD H' (o2.sub.trans s)) (o2.sub _ _ hw1) (o2.sub _ _ hw2) hS hc fun fa xs UL H3 o3 u_of hl => ?_)
 have o4 : Own H H3 ((dx, .dct [(ss "data", .ref da), (ss "how", .ref hw)]) :: (x, .ins 213 dx) :: (fa, .lst (xs.map .ref)) :: UL) := (o2.trans o3).perm ((List.perm_append_comm (l₁ := (fa, .lst (xs.map .ref)) :: UL) (l₂ := [(x, .ins 213 dx), (dx, .dct [(ss "data", .ref da), (ss "how", .ref hw)])])).trans (List.Perm.swap ..))
 clear o2 o3 o1 o0
 refine (EvP.loc rfl).to (sa_LineView_units (o4.get (.tail _ (.head _))) (o4.get (.head _)) (Nat.le_of_ble_eq_true rfl) ?_)
 have o5 := o4.upd (y := .dct [(ss "data", .ref da), (ss "how", .ref hw), (ss "units", .ref fa)]) 0 rfl
 revert o5; generalize e5 : H3.set dx (X.dct [(ss "data", .ref da), (ss "how", .ref hw), (ss "units", .ref fa)]) = H5; intro o5
 replace e5 : H3.set dx (.dct (sput (Str.ofString "units") (.ref fa) [(ss "data", .ref da), (ss "how", .ref hw)])) = H5 := e5
 rw [e5]; clear e5 o4
 refine Ex.asgA (Ev.lst (EvL.nil ⟨by decide, fun so hso _ => ?_⟩))
 have o6 := o5.alloc (x := .lst []) hso
 refine (EvP.loc rfl).to (sa_LineView_solid (o6.get (.tail _ (.tail _ (.head _)))) (o6.get (.tail _ (.head _))) (Nat.le_of_ble_eq_true rfl) ?_)
 have o7 := o6.upd (y := .dct (sput (Str.ofString "solid") (.ref so) [(ss "data", .ref da), (ss "how", .ref hw), (ss "units", .ref fa)])) 1 rfl
 revert o7; generalize (H5.set so _).set dx _ = H7; intro o7
 clear o5 o6 hso
 refine Ex.asgA (Ev.lst (EvL.nil ⟨by decide, fun re hre _ => ?_⟩))
 have o8 := o7.alloc (x := .lst []) hre
 refine (EvP.loc rfl).to (sa_LineView_regional (o8.get (.tail _ (.tail _ (.tail _ (.head _))))) (o8.get (.tail _ (.tail _ (.head _)))) (Nat.le_of_ble_eq_true rfl) ?_)
 have o9 := o8.upd (y := .dct (sput (Str.ofString "regional") (.ref re) (sput (Str.ofString "solid") (.ref so) [(ss "data", .ref da), (ss "how", .ref hw), (ss "units", .ref fa)]))) 2 rfl
 revert o9; generalize (H7.set re _).set dx _ = H9; intro o9
 clear o7 o8 hre
 refine Ex.asgA (Ev.lst (EvL.nil ⟨by decide, fun nu hnu _ => ?_⟩))
 have oA := o9.alloc (x := .lst []) hnu
 refine (EvP.loc rfl).to (sa_LineView_numeric (oA.get (.tail _ (.tail _ (.tail _ (.tail _ (.head _)))))) (oA.get (.tail _ (.tail _ (.tail _ (.head _))))) (Nat.le_of_ble_eq_true rfl) ?_)
 have oB : Own H _ ((nu, .lst []) :: (re, .lst []) :: (so, .lst []) :: (dx, .dct (viewD da hw fa so re nu)) :: (x, .ins 213 dx) :: (fa, .lst (xs.map .ref)) :: UL) := oA.upd (y := .dct (viewD da hw fa so re nu)) 3 rfl
 revert oB; generalize eB : (H9.set nu _).set dx _ = HB; intro oB
 replace eB : (H9.set nu (.lst [])).set dx (.dct (sput (Str.ofString "numeric") (.ref nu) (sput (Str.ofString "regional") (.ref re) (sput (Str.ofString "solid") (.ref so) [(ss "data", .ref da), (ss "how", .ref hw), (ss "units", .ref fa)])))) = HB := eB
 rw [eB]; clear eB o9 oA hnu
 refine Ex.asgT (EvP.to (EvP.tup (EvPL.cons (EvP.neg EvP.cint) (EvPL.cons EvP.cint (EvPL.cons EvP.cbool EvPL.nil)))) ?_)
 refine Asg.tup (AsgL.cons (Asg.name (AsgL.cons (Asg.name (AsgL.cons (Asg.name (AsgL.nil ?_)))))))
 refine Ex.forEnum (by one_sign) (by ktr_unf) rfl (EvP.attr (EvP.loc rfl) (gp_LineView_units (oB.get (.tail _ (.tail _ (.tail _ (.tail _ (.head _)))))) (oB.get (.tail _ (.tail _ (.tail _ (.head _))))) rfl)) (oB.get (.tail _ (.tail _ (.tail _ (.tail _ (.tail _ (.head _))))))) rfl ?_
 have hun : ∀ (i : Nat) (u : Addr), xs[i]? = some u → ∃ (c : Int) (du : Addr), codes[i]? = some c ∧ (u, X.ins 157 du) ∈ UL ∧ (du, X.dct (unitD ⟨lb c, c, i, false⟩)) ∈ UL := fun i u e => u_of i u e
 refine Lp.inv (fun i m H' => m (Str.ofString "self") = some (.ref x) ∧ m (Str.ofString "last") = some (.int (stV lb codes i).last) ∧ m (Str.ofString "many") = some (.int (stV lb codes i).many) ∧ m (Str.ofString "is_number") = some (.bool (stV lb codes i).num) ∧
  Own H H' ((nu, .lst ((List.range i).map fun j => .bool (stV lb codes (j + 1)).num)) :: (re, .lst ((List.range i).map fun j => .int (stV lb codes (j + 1)).many)) :: (so, .lst ((List.range i).map fun j => .int (stV lb codes (j + 1)).last)) :: (dx, .dct (viewD da hw fa so re nu)) :: (x, .ins 213 dx) :: (fa, .lst (xs.map .ref)) :: UL)) ?_ ?_
  ⟨rfl, by ktr_rel, by ktr_rel, by ktr_rel, oB⟩
 ·rintro i d m H' hi ⟨m1, m2, m3, m4, o⟩
  obtain ⟨_, hi2, rfl⟩ := enuL_inv hi
  obtain ⟨u, hi3, rfl⟩ := map_inv hi2
  obtain ⟨c, du, hc1, hu1, hu2⟩ := hun i u hi3
  clear hi hi2
  have hlt : i < codes.length := (List.getElem?_eq_some_iff.mp hc1).1
  have hstep : stV lb codes (i + 1) = stepV i (stV lb codes i) (lb c) := by
   show stepV i (stV lb codes i) (lb (codes.getD i 0)) = _
   rw [List.getD_eq_getElem?_getD, hc1]; rfl
  have hu3 := o.get (.tail _ (.tail _ (.tail _ (.tail _ (.tail _ (.tail _ hu1))))))
  have hu4 := o.get (.tail _ (.tail _ (.tail _ (.tail _ (.tail _ (.tail _ hu2))))))
  refine ⟨o.get (.tail _ (.tail _ (.tail _ (.tail _ (.tail _ (.head _)))))), Asg.tup (AsgL.cons (Asg.name (AsgL.cons (Asg.name (AsgL.nil ?_)))))⟩
  have a1 : (stV lb codes (i + 1)).last = bif is (lb c) "SP" then (stV lb codes i).last else i := by rw [hstep]; rfl
  have a2 : (stV lb codes (i + 1)).many = bif is (lb c) "RI" then (stV lb codes i).many + 1 else 0 := by rw [hstep]; rfl
  have a3 : (stV lb codes (i + 1)).num = (is (lb c) "NU" || ((stV lb codes i).num && inl (lb c) INNER)) := by rw [hstep]; rfl
  refine Ex.any fun Q1 q1 => ?_
  refine' Ex.asg (EvP.to (EvP.conv (d' := .int (stV lb codes (i + 1)).last) (EvP.ifxI ?w1 (fun _ => ?w2) (fun _ => ?w3)) ?w4) (Asg.name ?_))
  case w1 => tb_start
  case w2 => tb_start
  case w3 => tb_start
  case w4 => rw [a1]; rfl
  refine' Ex.asg (EvP.to (EvP.conv (d' := .int (stV lb codes (i + 1)).many) (EvP.ifxI ?w1 (fun _ => ?w2) (fun _ => ?w3)) ?w4) (Asg.name ?_))
  case w1 => tb_start
  case w2 => tb_start
  case w3 => tb_start
  case w4 => rw [a2]; rfl
  refine' Ex.asg (EvP.to (EvP.conv (d' := .bool (stV lb codes (i + 1)).num) (EvP.orB ?w1 (fun _ => EvP.one (EvP.and ?w2 (fun _ => EvP.one ?w3)))) ?w4) (Asg.name ?_))
  case w1 => tb_start
  case w2 => tb_start
  case w3 => tb_start
  case w4 => rw [a3]; rfl
  refine Ex.append (EvP.attr (EvP.loc (by ktr_rel)) (gp_LineView_solid (o.get (.tail _ (.tail _ (.tail _ (.tail _ (.head _)))))) (o.get (.tail _ (.tail _ (.tail _ (.head _))))) rfl)) (o.get (.tail _ (.tail _ (.head _)))) (EvP.to (EvP.loc (by ktr_rel)) ?_)
  refine ⟨_, o.get (.tail _ (.tail _ (.head _))), by simp; rw [sizeLine_eq]; one_sign, ?_⟩
  have o1 := o.upd (y := .lst ((List.range i).map (fun j => D.int (stV lb codes (j + 1)).last) ++ [.int (stV lb codes (i + 1)).last])) 2 rfl
  revert o1; generalize H'.set so _ = H1; intro o1
  refine Ex.append (EvP.attr (EvP.loc (by ktr_rel)) (gp_LineView_regional (o1.get (.tail _ (.tail _ (.tail _ (.tail _ (.head _)))))) (o1.get (.tail _ (.tail _ (.tail _ (.head _))))) rfl)) (o1.get (.tail _ (.head _))) (EvP.to (EvP.loc (by ktr_rel)) ?_)
  refine ⟨_, o1.get (.tail _ (.head _)), by simp; rw [sizeLine_eq]; one_sign, ?_⟩
  have o2 := o1.upd (y := .lst ((List.range i).map (fun j => D.int (stV lb codes (j + 1)).many) ++ [.int (stV lb codes (i + 1)).many])) 1 rfl
  revert o2; generalize H1.set re _ = H2; intro o2
  refine Ex.append (EvP.attr (EvP.loc (by ktr_rel)) (gp_LineView_numeric (o2.get (.tail _ (.tail _ (.tail _ (.tail _ (.head _)))))) (o2.get (.tail _ (.tail _ (.tail _ (.head _))))) rfl)) (o2.get (.head _)) (EvP.to (EvP.loc (by ktr_rel)) ?_)
  refine ⟨_, o2.get (.head _), by simp; rw [sizeLine_eq]; one_sign, ?_⟩
  have o3 := o2.upd (y := .lst ((List.range i).map (fun j => D.bool (stV lb codes (j + 1)).num) ++ [.bool (stV lb codes (i + 1)).num])) 0 rfl
  revert o3; generalize H2.set nu _ = H3; intro o3
  refine Ex.nil (q1 _ _ _ ⟨by ktr_rel, by ktr_rel, by ktr_rel, by ktr_rel, ?_⟩)
  rw [← range_snoc (f := fun j => D.int (stV lb codes (j + 1)).last), ← range_snoc (f := fun j => D.int (stV lb codes (j + 1)).many), ← range_snoc (f := fun j => D.bool (stV lb codes (j + 1)).num)]
  exact o3
 ·rintro m H' ⟨m1, m2, m3, m4, o⟩
  rw [enuL_len, List.length_map, hl] at o
  refine ⟨o.get (.tail _ (.tail _ (.tail _ (.tail _ (.tail _ (.head _)))))), Ex.nil ⟨rfl, ?_⟩⟩
  refine q ⟨x, dx, hw, dh, fa, so, re, nu, da, xs⟩ _ H' rfl o (fun H'' has w1 w2 => view_of has hz (.tail _ (.tail _ (.tail _ (.tail _ (.head _))))) (.tail _ (.tail _ (.tail _ (.head _)))) (.tail _ (.tail _ (.tail _ (.tail _ (.tail _ (.head _)))))) (u_of.mono fun p hp => .tail _ (.tail _ (.tail _ (.tail _ (.tail _ (.tail _ hp)))))) hl w1 w2 (.tail _ (.tail _ (.head _))) (.tail _ (.head _)) (.head _))
end
noncomputable def okV (x : Str) : Bool := okW x && !jamo x && !is x "EM" && !is x "RI"
noncomputable def isStrD : D → Bool
 | .str _ => true
 | _ => false
noncomputable def strs2 : List D → Bool
 | [a, b] => isStrD a && isStrD b
 | _ => false
noncomputable def okT : D → Bool
 | .none => true
 | .tup l => strs2 l
 | _ => false
noncomputable def pairT : D → Bool
 | .tup l => strs2 l
 | _ => false
theorem okT_bif {c : Bool} {x y : D} (a : okT x = true) (b : okT y = true) : okT (bif c then x else y) = true := by cases c <;> assumption
theorem okT_or {x y : D} (a : okT x = true) (b : okT y = true) : okT (vOr x y) = true := by unfold vOr; cases truth x <;> assumption
theorem pairT_or {x y : D} (a : okT x = true) (b : pairT y = true) : pairT (vOr x y) = true := by
 cases x with
 | none => exact b
 | tup l =>
  cases l with
  | nil => cases a
  | cons p l => exact a
 | _ => cases a
theorem okT_m (a b : Str) : okT (.tup [.str a, .str b]) = true := rfl
theorem okT_n : okT .none = true := rfl
section
variable {w : World} {mg mb : Str → Option Value} {lo : Lo} {n : Nat} {H : Hp} {lb gc ea : Int → Str}
local macro_rules | `(tactic| ktr_units) => `(tactic| (repeat' first | exact okT_m _ _ | exact okT_n | apply okT_bif))
theorem verdict_pair (V : Vw) (gc ea : Int → Str) (p : Int) : pairT (verdict V gc ea p) = true := by
 have e1 : okT (rExpr V p) = true := by unfold rExpr; ktr_units
 have e2 : okT (rNumbers V p) = true := by unfold rNumbers; apply okT_bif e1; ktr_units
 unfold verdict
 refine pairT_or (okT_or (okT_or (okT_or (okT_or ?_ (okT_or ?_ ?_)) (okT_or ?_ (okT_or ?_ ?_))) (okT_or ?_ (okT_or ?_ e2))) (okT_or ?_ (okT_or ?_ ?_))) (pairT_or ?_ rfl)
 ·unfold rHard; ktr_units
 ·unfold rSpaces; ktr_units
 ·unfold rGlue; ktr_units
 ·unfold rClosing; ktr_units
 ·unfold rQuotes; ktr_units
 ·unfold rOver; ktr_units
 ·unfold rSigns; ktr_units
 ·unfold rLetters; ktr_units
 ·unfold rSyll; ktr_units
 ·unfold rAksaras; ktr_units
 ·unfold rBrackets; ktr_units
 ·unfold rPict; ktr_units
theorem pair_of {d : D} (h : pairT d = true) : ∃ a b, d = .tup [.str a, .str b] := by
 cases d with
 | tup l =>
  cases l with
  | nil => cases h
  | cons p l =>
   cases l with
   | nil => cases h
   | cons q l =>
    cases l with
    | cons r l => cases h
    | nil =>
     obtain ⟨h1, h2⟩ := Bool.and_eq_true_iff.mp (show (isStrD p && isStrD q) = true from h)
     cases p <;> first | (cases h1; done) | skip
     cases q <;> first | (cases h2; done) | exact ⟨_, _, rfl⟩
 | _ => cases h
theorem mkV_W {codes : List Int} {S N : Str} {kp : Bool} {p : Int} {c : Int} (h0 : 0 ≤ p) (h : codes[p.toNat]? = some c) : (mkV lb codes S N kp).W p = lb c := by
 have hl : p.toNat < codes.length := (List.getElem?_eq_some_iff.mp h).1
 unfold Vw.W
 rw [mkV_len, if_pos ⟨h0, by one_sign⟩]
 simp [mkV, h]
noncomputable def verL (V : Vw) (gc ea : Int → Str) (i : Nat) : List D := (List.range (V.us.length + 1)).map fun (k : Nat) => if k = 0 then no "LB2" else if k = V.us.length then must "LB3" else if k ≤ i then verdict V gc ea k else no "LB9"
theorem verL_len (V : Vw) (gc ea : Int → Str) (i : Nat) : (verL V gc ea i).length = V.us.length + 1 := by simp [verL]
theorem verL_zero {V : Vw} (h : 1 ≤ V.us.length) : ((List.replicate (V.us.length + 1) (no "LB9")).set V.us.length (must "LB3")).set 0 (no "LB2") = verL V gc ea 0 := by
 apply List.ext_getElem
 ·simp [verL]
 ·intro k h1 h2
  simp only [List.length_set, List.length_replicate] at h1
  simp only [List.getElem_set, List.getElem_replicate, verL, List.getElem_map, List.getElem_range]
  by_cases a : k = 0
  ·subst a; simp
  ·by_cases b : k = V.us.length
   ·subst b; simp [a, Ne.symm a]
   ·have : ¬ k ≤ 0 := by one_sign
    simp [a, b, Ne.symm a, Ne.symm b]
theorem verL_step {V : Vw} {i : Nat} (h : i + 1 < V.us.length) : (verL V gc ea i).set (i + 1) (verdict V gc ea ((i + 1 : Nat) : Int)) = verL V gc ea (i + 1) := by
 apply List.ext_getElem
 ·simp [verL]
 ·intro k h1 h2
  simp only [List.getElem_set, verL, List.getElem_map, List.getElem_range]
  by_cases a : k = 0
  ·subst a; simp
  ·by_cases b : k = V.us.length
   ·subst b
    have : ¬ i + 1 = V.us.length := by one_sign
    simp [a, this]
   ·by_cases c : i + 1 = k
    ·subst c; simp [b]
    ·have e : (k ≤ i + 1) = (k ≤ i) := propext (by one_sign)
     simp [a, b, c, e]
theorem rngL_inv {lo hi : Int} {i : Nat} {d : D} (h : (rngL lo hi)[i]? = some d) : d = .int (lo + i) ∧ i < (hi - lo).toNat := by
 have hl : i < (hi - lo).toNat := by have := (List.getElem?_eq_some_iff.mp h).1; rwa [rngL_len] at this
 rw [rngL_get lo hi hl] at h; cases h; exact ⟨rfl, hl⟩
theorem line_verdicts_ok {t da hw dh : Addr} {codes : List Int} {S N : Str} {kp : Bool} {Q : D → Hp → Prop} (ht : H t = some (.lst (codes.map .int))) (hz : codes.length ≤ 100) (h1 : 1 ≤ codes.length)
  (hD : ∀ H', Sub H H' → DatOk (mkG w mg mb lo) (n + 3) H' da lb gc ea) (hw1 : H hw = some (.ins 122 dh)) (hw2 : H dh = some (.dct (howD S N kp))) (hS : is S "strict" = true)
  (hc : ∀ c ∈ codes, 0 ≤ c ∧ okV (lb c) = true)
  (q : ∀ a L H', Own H H' ((a, .lst (verL (mkV lb codes S N kp) gc ea (codes.length - 1))) :: L) → Q (.ref a) H') : CalC (mkG w mg mb lo) (n + 9) H (.ref 343) [.ref t, .ref da, .ref hw] Q := by
 have hN := mkV_len lb codes S N kp
 refine CalC.fn (es := [.ref t, .ref da, .ref hw]) [Str.ofString "text", Str.ofString "data", Str.ofString "how"] (by ktr_unf) (by ktr_unf) (fun B T s vs k i => BindsTo.three (fun a b c => rfl) i) (fun L hL => ?_)
 refine Ex.asg (Ev.bin (Ev.lst (EvPL.to (EvPL.cons (EvP.tup (EvPL.cons EvP.cstr (EvPL.cons EvP.cstr EvPL.nil))) EvPL.nil) ⟨by decide, fun a0 ha0 _ => ?_⟩)))
 refine EvP.to (EvP.bin (EvP.callB (id := "len") (by ktr_unf) rfl (EvPL.cons (EvP.loc rfl) EvPL.nil) (CalP.lenL (Hp.keep ha0 ht) (by simp; one_sign))) EvP.cint BinP.add) ?_
 refine Bin.mulL (LstAt.own (Hp.set_self ..)) (by one_sign) (by simp; one_sign) (by decide) (fun c hc0 => Asg.name ?_)
 have o0 := ((Own.refl H).alloc (x := .lst [no "LB9"]) ha0).alloc (x := .lst (List.replicate ((mkV lb codes S N kp).us.length + 1) (no "LB9"))) hc0
 have e0 : ∀ (x : Nat) (y : D), (List.replicate x [y]).flatten = List.replicate x y := fun x y => by
  induction x with
  | zero => rfl
  | succ x ih => rw [List.replicate_succ, List.flatten_cons, ih, List.replicate_succ]; rfl
 have e1 : ((((codes.map D.int).length : Nat) : Int) + 1).toNat = (mkV lb codes S N kp).us.length + 1 := by rw [hN]; simp
 rw [e1, e0]
 replace o0 := o0.weak (L' := [(c, .lst (List.replicate ((mkV lb codes S N kp).us.length + 1) (no "LB9")))]) (by simp)
 revert o0
 generalize eH : (H.set a0 (X.lst [no "LB9"])).set c (X.lst (List.replicate ((mkV lb codes S N kp).us.length + 1) (no "LB9"))) = H0
 intro o0
 replace eH : (H.set a0 (X.lst [.tup [.str (Str.ofString "no"), .str (Str.ofString "LB9")]])).set c (X.lst (List.replicate ((mkV lb codes S N kp).us.length + 1) (.tup [.str (Str.ofString "no"), .str (Str.ofString "LB9")]))) = H0 := eH
 rw [eH]; clear eH
 have tx := o0.sub _ _ ht
 refine Ex.asgI (EvP.to (EvP.tup (EvPL.cons EvP.cstr (EvPL.cons EvP.cstr EvPL.nil))) (EvP.to (EvP.loc lset_self) (EvP.to (EvP.callB (id := "len") (by ktr_unf) rfl (EvPL.cons (EvP.loc rfl) EvPL.nil) (CalP.lenL tx (by simp; one_sign))) ?_)))
 refine SetI.lst (o0.get (.head _)) (by one_sign) (by simp [hN]; one_sign) (by simp [hN]; one_sign) ?_
 have o1 := o0.upd (y := .lst ((List.replicate ((mkV lb codes S N kp).us.length + 1) (no "LB9")).set (mkV lb codes S N kp).us.length (must "LB3"))) 0 rfl
 rw [show (((codes.map D.int).length : Nat) : Int).toNat = (mkV lb codes S N kp).us.length by rw [hN]; simp]
 revert o1
 generalize eH : H0.set c (X.lst ((List.replicate ((mkV lb codes S N kp).us.length + 1) (no "LB9")).set (mkV lb codes S N kp).us.length (must "LB3"))) = H1
 intro o1
 replace eH : H0.set c (X.lst ((List.replicate ((mkV lb codes S N kp).us.length + 1) (no "LB9")).set (mkV lb codes S N kp).us.length (.tup [.str (Str.ofString "must"), .str (Str.ofString "LB3")]))) = H1 := eH
 rw [eH]; clear eH
 refine Ex.asgI (EvP.to (EvP.tup (EvPL.cons EvP.cstr (EvPL.cons EvP.cstr EvPL.nil))) (EvP.to (EvP.loc lset_self) (EvP.cint.to ?_)))
 refine SetI.lst (o1.get (.head _)) (by one_sign) (by simp [hN]) (by simp [hN]; one_sign) ?_
 have o2 := o1.upd (y := .lst (((List.replicate ((mkV lb codes S N kp).us.length + 1) (no "LB9")).set (mkV lb codes S N kp).us.length (must "LB3")).set 0 (no "LB2"))) 0 rfl
 revert o2
 generalize eH : H1.set c (X.lst (((List.replicate ((mkV lb codes S N kp).us.length + 1) (no "LB9")).set (mkV lb codes S N kp).us.length (must "LB3")).set 0 (no "LB2"))) = H2
 intro o2
 replace eH : H1.set c (X.lst (((List.replicate ((mkV lb codes S N kp).us.length + 1) (no "LB9")).set (mkV lb codes S N kp).us.length (must "LB3")).set (0 : Int).toNat (.tup [.str (Str.ofString "no"), .str (Str.ofString "LB2")]))) = H2 := eH
 rw [eH]; clear eH
 rw [verL_zero (gc := gc) (ea := ea) (by rw [hN]; exact h1)] at o2
 clear o0 o1
 refine Ex.asg (Ev.callG (by ktr_unf) (by ktr_unf) (EvPL.to (EvPL.cons (EvP.loc rfl) (EvPL.cons (EvP.loc rfl) (EvPL.cons (EvP.loc rfl) EvPL.nil))) ?_))
 refine CalC.cal (CalC.le (LineView_ok (n := n) (o2.sub _ _ ht) hz (fun H' s => hD H' (o2.sub.trans s)) (o2.sub _ _ hw1) (o2.sub _ _ hw2) hS (fun c h => ⟨(hc c h).1, (by have := (hc c h).2; unfold okV at this; simp only [Bool.and_eq_true] at this; exact this.1.1.1)⟩) (fun A LV H3 hda o3 hV => Asg.name ?_)) (by one_sign))
 have oV : Own H H3 ((c, .lst (verL (mkV lb codes S N kp) gc ea 0)) :: LV) := (o2.trans o3).perm (List.perm_append_singleton ..)
 have vw : ∀ {H' F}, Own H H' ((c, X.lst F) :: LV) → View H' A (mkV lb codes S N kp) := fun o => hV _ (fun p hp => o.has p (.tail _ hp)) (o.sub _ _ hw1) (o.sub _ _ hw2)
 clear o2 o3
 have v0 := vw oV
 refine Ex.forRng2 (by one_sign) (by ktr_unf) rfl EvP.cint (EvP.callB (id := "len") (by ktr_unf) rfl (EvPL.cons (EvP.attr (EvP.loc rfl) (gp_LineView_units v0.v v0.dv rfl)) EvPL.nil) (CalP.lenL v0.un (by have := v0.len; simp; one_sign))) (by one_sign) (by one_sign) (by one_sign) (by have := v0.len; simp; one_sign) rfl ?_
 refine Lp.inv (fun i m H' => m (Str.ofString "found") = some (.ref c) ∧ m (Str.ofString "view") = some (.ref A.v) ∧ Own H H' ((c, .lst (verL (mkV lb codes S N kp) gc ea i)) :: LV)) ?_ ?_ ⟨rfl, rfl, oV⟩
 ·rintro i d m H' hi ⟨m1, m2, o⟩
  obtain ⟨rfl, hl⟩ := rngL_inv hi
  have v := vw o
  have hl' : i + 1 < codes.length := by have := v0.len; simp at hl; one_sign
  refine ⟨trivial, Asg.name ?_⟩
  have hi : (1 : Int) + i = ((i + 1 : Nat) : Int) := by one_sign
  rw [hi]
  have hcod : (mkV lb codes S N kp).codes := fun U hU => by
   obtain ⟨k, hk, e⟩ := List.mem_iff_getElem.mp hU
   simp only [mkV, List.getElem_mapIdx] at e
   rw [← e]; exact (hc _ (List.getElem_mem _)).1
  have wd : ∀ p : Int, 0 ≤ p → p < codes.length → okV ((mkV lb codes S N kp).W p) = true := fun p h0 hp => by
   have hp' : p.toNat < codes.length := by one_sign
   rw [mkV_W h0 (List.getElem?_eq_getElem hp')]
   exact (hc _ (List.getElem_mem _)).2
  have w1 := wd (((i + 1 : Nat) : Int) - 1) (by one_sign) (by one_sign)
  have w2 := wd ((i + 1 : Nat) : Int) (by one_sign) (by one_sign)
  unfold okV at w1 w2
  simp only [Bool.and_eq_true, Bool.not_eq_true'] at w1 w2
  obtain ⟨u, du, U, a, b, c1, d1⟩ := v.at (i := i + 1) (by rw [hN]; exact hl')
  have hU : U.p = ((i + 1 : Nat) : Int) := by
   simp only [mkV, List.getElem?_mapIdx] at b
   rw [List.getElem?_eq_getElem hl'] at b
   simp at b; rw [← b]; rfl
  refine Ex.asgI (EvP.to (EvP.callD (by ktr_unf) (EvP.glob (by ktr_unf) IsTop.ref) (EvPL.cons (EvP.loc (lset_get (by decide) m2)) (EvPL.cons (EvP.loc lset_self) EvPL.nil)) (verdict_ok v (hda ▸ hD _ o.sub) hcod _ (by one_sign) (by rw [hN]; one_sign) w1.1.1.2 w2.1.2 w1.2)) (EvP.to (EvP.loc (lset_get (by decide) m1)) (EvP.to (EvP.attr (EvP.item (EvP.attr (EvP.loc (lset_get (by decide) m2)) (gp_LineView_units v.v v.dv rfl)) (EvP.loc lset_self) (ItemP.lst v.un (by one_sign) a v.len'.1)) (gp_LineUnit_at c1 d1 rfl)) ?_)))
  rw [hU]
  have hvl := verL_len (mkV lb codes S N kp) gc ea i
  refine SetI.lst (o.get (.head _)) (by one_sign) (by rw [hvl, hN]; one_sign) (by rw [hvl, hN]; one_sign) (Ex.nil ⟨lset_get (by decide) m1, lset_get (by decide) m2, ?_⟩)
  rw [← verL_step (gc := gc) (ea := ea) (by rw [hN]; exact hl')]
  exact o.upd 0 rfl
 ·rintro m H' ⟨m1, m2, o⟩
  refine ⟨trivial, Ex.ret (EvP.to (EvP.loc m1) (q c LV _ ?_))⟩
  rw [rngL_len] at o
  rw [show codes.length - 1 = (((A.ua.map D.ref).length : Nat) - 1 : Int).toNat by have := v0.len; simp; one_sign]
  exact o
end
noncomputable def fstD : D → D
 | .tup (a :: _) => a
 | _ => .none
noncomputable def sndD : D → D
 | .tup [_, b] => b
 | _ => .none
noncomputable def brkD (da hw : Addr) : List (D × D) := [(ss "data", .ref da), (ss "how", .ref hw)]
structure BrkAt (H : Hp) (x dx da hw dh : Addr) (S N : Str) (kp : Bool) : Prop where
 x : H x = some (.ins 432 dx)
 dx : H dx = some (.dct (brkD da hw))
 hw : H hw = some (.ins 122 dh)
 dh : H dh = some (.dct (howD S N kp))
theorem BrkAt.sub {H H' : Hp} {x dx da hw dh : Addr} {S N : Str} {kp : Bool} (h : BrkAt H x dx da hw dh S N kp) (s : Sub H H') : BrkAt H' x dx da hw dh S N kp := ⟨s _ _ h.x, s _ _ h.dx, s _ _ h.hw, s _ _ h.dh⟩
section
variable {w : World} {mg mb : Str → Option Value} {lo : Lo} {n : Nat} {H : Hp} {lb gc ea : Int → Str}
theorem BindsTo.dfltG {G : Gd} {B : Heap} {s : Shared} {fd : FuncData} {vs ws : List Value} {es : List D} {ks : List Str} {a : Addr} {items : List Value} {c : Nat} {dd : Option Addr} {sl : Array (Option Value)} {k : Option (Array Value) → Sem (List (Str × Value))} (T : TopOk G B) (kp : ∀ b o, B.get? b = some o → s.heap.get? b = some o)
  (hd : fd.defaults = .ref a) (ho : G.K.lookup a = some ⟨.type "tuple", dd, .seq items.toArray c, sl⟩) (h₁ : bindArgs fd ⟨vs, []⟩ = seqItems? fd.defaults >>= k) (h₂ : k (some items.toArray) = pure (ks.zip ws)) (i : IsL s.heap ws es) : ∃ ws, BindsTo s fd ⟨vs, []⟩ (ks.zip ws) ∧ IsL s.heap ws es :=
 BindsTo.dflt (ds := []) hd (kp _ _ (T.k _ _ ho)) rfl h₁ h₂ i
theorem LineHow0_ok {Q : D → Hp → Prop} (q : ∀ x dx H', Own H H' [(x, .ins 122 dx), (dx, .dct (howD (Str.ofString "strict") (Str.ofString "pairs") false))] → Q (.ref x) H') : CalC (mkG w mg mb lo) (n + 3) H (.ref 122) [] Q := by
 refine CalC.cls (fI := 119) (by ktr_unf) (by ktr_unf) (by ktr_unf) (fun x dx hx hdx hne => ?_)
 refine CalC.fn (es := [.ref x, ss "strict", .bool false, ss "pairs"]) [Str.ofString "self", Str.ofString "strictness", Str.ofString "keep_all", Str.ofString "numbers"] (by ktr_unf) (by ktr_unf) (fun B T s vs k i => ?_) (fun L hL => ?_)
 ·cases i with | @cons v0 _ _ _ a i =>
  cases i
  refine' BindsTo.dfltG (ws := [v0, .str (Str.ofString "strict") _, .bool false, .str (Str.ofString "pairs") _]) T k rfl ?h0 ?h1 ?h2 ?h3
  case h0 => ktr_unf
  case h1 => rfl
  case h2 => rfl
  case h3 => exact .cons a (.cons (.str _ _) (.cons (.bool _) (.cons (.str _ _) .nil)))
 have o0 : Own H ((H.set dx (.dct [])).set x (.ins 122 dx)) [(x, .ins 122 dx), (dx, .dct [])] := inst_own hx hdx hne
 refine Ex.iteP (x := false) ?t1 (fun h => by cases h) (fun _ => Ex.nil ?_)
 case t1 =>
  refine' EvPB.conv ?t2 ?t3
  case t2 => tb_start
  case t3 => decide
 refine Ex.iteP (x := false) ?t1 (fun h => by cases h) (fun _ => Ex.nil ?_)
 case t1 =>
  refine' EvPB.conv ?t2 ?t3
  case t2 => tb_start
  case t3 => decide
 refine Ex.asgA ((EvP.loc rfl).to ((EvP.loc rfl).to (sa_LineHow_strictness inst_x (inst_dx hne) (Nat.le_of_ble_eq_true rfl) ?_)))
 rw [show ((H.set dx (.dct [])).set x (.ins 122 dx)) = inst H x dx 122 [] from rfl, inst_set hne]
 refine Ex.asgA ((EvP.loc rfl).to ((EvP.loc rfl).to (sa_LineHow_keep_all inst_x (inst_dx hne) (Nat.le_of_ble_eq_true rfl) ?_)))
 rw [inst_set hne]
 refine Ex.asgA ((EvP.loc rfl).to ((EvP.loc rfl).to (sa_LineHow_numbers inst_x (inst_dx hne) (Nat.le_of_ble_eq_true rfl) ?_)))
 rw [inst_set hne]
 exact Ex.nil ⟨rfl, q x dx _ (inst_own hx hdx hne)⟩
theorem LineBreaks1_ok {da : Addr} {Q : D → Hp → Prop} (q : ∀ x dx hw dh H', Own H H' [(hw, .ins 122 dh), (dh, .dct (howD (Str.ofString "strict") (Str.ofString "pairs") false)), (x, .ins 432 dx), (dx, .dct (brkD da hw))] → Q (.ref x) H') : CalC (mkG w mg mb lo) (n + 6) H (.ref 432) [.ref da] Q := by
 refine CalC.cls (fI := 398) (by ktr_unf) (by ktr_unf) (by ktr_unf) (fun x dx hx hdx hne => ?_)
 refine CalC.fn (es := [.ref x, .ref da, .none]) [Str.ofString "self", Str.ofString "data", Str.ofString "how"] (by ktr_unf) (by ktr_unf) (fun B T s vs k i => ?_) (fun L hL => ?_)
 ·cases i with | @cons v0 _ _ _ a i =>
  cases i with | @cons v1 _ _ _ a1 i =>
  cases i
  refine' BindsTo.dfltG (ws := [v0, v1, .none]) T k rfl ?h0 ?h1 ?h2 ?h3
  case h0 => ktr_unf
  case h1 => rfl
  case h2 => rfl
  case h3 => exact .cons a (.cons a1 (.cons .none .nil))
 have o0 : Own H ((H.set dx (.dct [])).set x (.ins 432 dx)) [(x, .ins 432 dx), (dx, .dct [])] := inst_own hx hdx hne
 revert o0 hL; generalize (H.set dx (.dct [])).set x (.ins 432 dx) = H0; intro hL o0
 refine Ex.asgA ((EvP.loc rfl).to ((EvP.loc rfl).to (sa_LineBreaks_data (o0.get (.head _)) (o0.get (.tail _ (.head _))) (Nat.le_of_ble_eq_true rfl) ?_)))
 have o1 := o0.upd (y := .dct (sput (Str.ofString "data") (.ref da) [])) 1 rfl
 revert o1; generalize H0.set dx _ = H1; intro o1
 refine Ex.asgA (Ev.ifx (EvPB.to (b := false) ?t1 ⟨fun h => (by cases h), fun _ => ?_⟩))
 case t1 => exact EvPB.cmp (EvP.loc rfl) EvP.cnone CmpP.isnot
 refine Ev.callG0 (by ktr_unf) (by ktr_unf) (CalC.cal (CalC.le (LineHow0_ok (n := n) fun hw dh H2 o2 => ?_) (by one_sign)))
 have o3 := o1.trans o2
 refine (EvP.loc rfl).to (sa_LineBreaks_how (o3.get (.tail _ (.tail _ (.head _)))) (o3.get (.tail _ (.tail _ (.tail _ (.head _))))) (Nat.le_of_ble_eq_true rfl) (Ex.nil ⟨rfl, q x dx hw dh _ ?_⟩))
 exact o3.upd (y := .dct (brkD da hw)) 3 rfl
theorem verL_pair {V : Vw} {i : Nat} {d : D} (h : d ∈ verL V gc ea i) : ∃ a b, d = .tup [.str a, .str b] := by
 obtain ⟨k, _, rfl⟩ := List.mem_map.mp h
 split
 ·exact ⟨_, _, rfl⟩
 ·split
  ·exact ⟨_, _, rfl⟩
  ·split
   ·exact pair_of (verdict_pair V gc ea k)
   ·exact ⟨_, _, rfl⟩
theorem opps_ok {x dx hw dh da t : Addr} {codes : List Int} {S N : Str} {kp : Bool} {Q : D → Hp → Prop} (hB : BrkAt H x dx da hw dh S N kp) (ht : H t = some (.lst (codes.map .int))) (hz : codes.length ≤ 100) (h1 : 1 ≤ codes.length)
  (hD : ∀ H', Sub H H' → DatOk (mkG w mg mb lo) (n + 3) H' da lb gc ea) (hS : is S "strict" = true)
  (hc : ∀ c ∈ codes, 0 ≤ c ∧ okV (lb c) = true)
  (q : ∀ a H', Own H H' [(a, .lst ((verL (mkV lb codes S N kp) gc ea (codes.length - 1)).map fstD))] → Q (.ref a) H') : CalC (mkG w mg mb lo) (n + 10) H (.ref 403) [.ref x, .ref t] Q := by
 refine CalC.fn (es := [.ref x, .ref t]) [Str.ofString "self", Str.ofString "text"] (by ktr_unf) (by ktr_unf) (fun B T s vs k i => BindsTo.two (fun a b => rfl) i) (fun L hL => ?_)
 refine Ex.ret (Ev.comp (cl := []) (by one_sign) ?_ ?hcl)
 case hcl => rfl
 refine Ev.locs (Ev.callG (by ktr_unf) (by ktr_unf) (EvPL.to (EvPL.cons (EvP.loc rfl) (EvPL.cons (EvP.attr (EvP.loc rfl) (gp_LineBreaks_data hB.x hB.dx rfl)) (EvPL.cons (EvP.attr (EvP.loc rfl) (gp_LineBreaks_how hB.x hB.dx rfl)) EvPL.nil))) ?_))
 refine CalC.cal (line_verdicts_ok ht hz h1 hD hB.hw hB.dh hS hc fun a L1 H1 o hL1 => ?_)
 have hlen := verL_len (mkV lb codes S N kp) gc ea (codes.length - 1)
 rw [mkV_len] at hlen
 refine ⟨_, _, _, _, Itr.lst (o.get (.head _)), rfl, hL1, by rw [hlen, sizeLine_eq]; one_sign, fun C hC hCL => ?_⟩
 refine Lc.inv (fun i m H' acc => Own H H' ((a, .lst (verL (mkV lb codes S N kp) gc ea (codes.length - 1))) :: L1) ∧ acc = ((verL (mkV lb codes S N kp) gc ea (codes.length - 1)).take i).map fstD) ?_ ?_ ⟨o, by simp⟩
 ·rintro i d m H' acc hi ⟨o', rfl⟩
  obtain ⟨x1, x2, rfl⟩ := verL_pair (List.mem_of_getElem? hi)
  refine ⟨o'.get (.head _), Asg.tup (AsgL.cons (Asg.name (AsgL.cons (Asg.name (AsgL.nil ?_)))))⟩
  refine ⟨fun _ => EvP.to (EvP.loc (lset_get (by decide) lset_self)) ⟨o', ?_⟩, fun h => by cases h⟩
  rw [List.take_succ, hi, List.map_append]; rfl
 ·rintro m H' acc ⟨o', rfl⟩
  refine ⟨o'.get (.head _), fun b hb _ => q b _ ?_⟩
  rw [List.take_length]
  exact (o'.alloc hb).weak (by simp)
end
noncomputable def RM.put (M : RM) (f l : Int) (x : Str) : RM :=
 let low := halfP M.st (f - 1) + 1
 let high := halfP M.st (l + 1) + 1
 let behind := M.vs.getD (high - 1).toNat ⟨#[]⟩
 let b1 := decide (l < 1114111) && !(behind == x)
 let st1 := bif b1 then [f, l + 1] else [f]
 let vs1 := bif b1 then [x, behind] else [x]
 let b2 := decide (low > 0) && (M.vs.getD (low - 1).toNat ⟨#[]⟩ == x)
 let st2 := bif b2 then st1.drop 1 else st1
 let vs2 := bif b2 then vs1.drop 1 else vs1
 ⟨M.st.take low.toNat ++ st2 ++ M.st.drop high.toNat, M.vs.take low.toNat ++ vs2 ++ M.vs.drop high.toNat, M.df⟩
section
variable {w : World} {mg mb : Str → Option Value} {lo : Lo} {n : Nat} {H : Hp}
theorem range_are_like_ok (a b : Str) : CalP (mkG w mg mb lo) (n + 1) H (.ref 443) [.str a, .str b] (.bool (a == b)) := by
 refine CalP.fn (es := [.str a, .str b]) [Str.ofString "one", Str.ofString "other"] (by ktr_unf) (by ktr_unf) (fun B T s vs k i => BindsTo.two (fun a b => rfl) i) (fun L hL => ?_)
 refine ExP.conv (d := .bool (deq (.str a) (.str b) && deq (.bool false) (.bool false))) (ExP.ret (EvP.and (EvP.cmp (EvP.loc rfl) (EvP.loc rfl) CmpP.eq) fun _ => EvP.one (EvP.cmp ?_ ?_ CmpP.eq))) (by show D.bool ((a == b) && true) = _; rw [Bool.and_true])
 ·exact EvP.callB (id := "isinstance") (by ktr_unf) rfl (EvPL.cons (EvP.loc rfl) (EvPL.cons (EvP.builtT (by ktr_unf) rfl) EvPL.nil)) (CalP.isB rfl)
 ·exact EvP.callB (id := "isinstance") (by ktr_unf) rfl (EvPL.cons (EvP.loc rfl) (EvPL.cons (EvP.builtT (by ktr_unf) rfl) EvPL.nil)) (CalP.isB rfl)
theorem RangeMap_ok {df : Str} {Q : D → Hp → Prop} (q : ∀ r rx s v H', Own H H' [(v, .lst [.str df]), (s, .lst [.int 0]), (r, .ins 488 rx), (rx, .dct (rmD ⟨[0], [df], df⟩ s v))] → Q (.ref r) H') : CalC (mkG w mg mb lo) (n + 2) H (.ref 488) [.str df] Q := by
 refine CalC.cls (fI := 457) (by ktr_unf) (by ktr_unf) (by ktr_unf) (fun x dx hx hdx hne => ?_)
 refine CalC.fn (es := [.ref x, .str df]) [Str.ofString "self", Str.ofString "default"] (by ktr_unf) (by ktr_unf) (fun B T s vs k i => BindsTo.two (fun a b => rfl) i) (fun L hL => ?_)
 have o0 : Own H ((H.set dx (.dct [])).set x (.ins 488 dx)) [(x, .ins 488 dx), (dx, .dct [])] := inst_own hx hdx hne
 revert o0 hL; generalize (H.set dx (.dct [])).set x (.ins 488 dx) = H0; intro hL o0
 refine Ex.asgA ((EvP.loc rfl).to ((EvP.loc rfl).to (sa_RangeMap_default (o0.get (.head _)) (o0.get (.tail _ (.head _))) (Nat.le_of_ble_eq_true rfl) ?_)))
 have o1 := o0.upd (y := .dct (sput (Str.ofString "default") (.str df) [])) 1 rfl
 revert o1; generalize H0.set dx _ = H1; intro o1
 refine Ex.asgA (Ev.lst (EvPL.to (EvPL.cons EvP.cint EvPL.nil) ⟨by decide, fun s hs _ => ?_⟩))
 have o2 := o1.alloc (x := .lst [.int 0]) hs
 refine (EvP.loc rfl).to (sa_RangeMap_starts (o2.get (.tail _ (.head _))) (o2.get (.tail _ (.tail _ (.head _)))) (Nat.le_of_ble_eq_true rfl) ?_)
 have o3 := o2.upd (y := .dct (sput (Str.ofString "starts") (.ref s) (sput (Str.ofString "default") (.str df) []))) 2 rfl
 revert o3; generalize (H1.set s _).set dx _ = H3; intro o3
 clear o0 o1 o2 hs
 refine Ex.asgA (Ev.lst (EvPL.to (EvPL.cons (EvP.loc rfl) EvPL.nil) ⟨Nat.le_of_ble_eq_true rfl, fun v hv _ => ?_⟩))
 have o4 := o3.alloc (x := .lst [.str df]) hv
 refine (EvP.loc rfl).to (sa_RangeMap_values (o4.get (.tail _ (.tail _ (.head _)))) (o4.get (.tail _ (.tail _ (.tail _ (.head _))))) (Nat.le_of_ble_eq_true rfl) (Ex.nil ⟨rfl, q x dx s v _ ?_⟩))
 exact o4.upd (y := .dct (rmD ⟨[0], [df], df⟩ s v)) 3 rfl
theorem rm_put_ok {H0 : Hp} {r rx s v : Addr} {M : RM} {L0 : List (Addr × X)} {f l : Int} {x : Str} {Q : D → Hp → Prop} (o : Own H0 H ((rx, .dct (rmD M s v)) :: L0)) (hr : (r, X.ins 488 rx) ∈ L0) (hs : (s, X.lst (M.st.map .int)) ∈ L0) (hv : (v, X.lst (M.vs.map .str)) ∈ L0) (hM : M.Ok)
  (h0 : 0 ≤ f) (h1 : f ≤ l) (h2 : l < 1000000) (q : ∀ s' v' H', Own H0 H' ((rx, .dct (rmD (M.put f l x) s' v')) :: (s', .lst ((M.put f l x).st.map .int)) :: (v', .lst ((M.put f l x).vs.map .str)) :: L0) → Q .none H') :
  CalC (mkG w mg mb lo) (n + 2) H (.ref 471) [.ref r, .int f, .int l, .str x] Q := by
 refine CalC.fn (es := [.ref r, .int f, .int l, .str x]) [Str.ofString "self", Str.ofString "first", Str.ofString "last", Str.ofString "value"] (by ktr_unf) (by ktr_unf) (fun B T s vs k i => BindsTo.four (fun a b c d => rfl) i) (fun L hL => ?_)
 have l0 := hM.len
 have l1 := hM.big
 obtain ⟨a1, a2⟩ := halfP_lt M.st (f - 1)
 obtain ⟨b1, b2⟩ := halfP_lt M.st (l + 1)
 have b0 := halfP_nonneg M.st (l + 1) hM.ne (by rw [hM.z]; omega)
 refine Ex.iteP (x := false) ?t1 (fun h => by cases h) (fun _ => Ex.nil ?_)
 case t1 =>
  refine EvPB.conv (b := decide (f > l)) ?_ (decide_eq_false (by omega))
  exact EvPB.cmp (EvP.loc rfl) (EvP.loc rfl) CmpP.gt
 have pr := o.get (.tail _ hr)
 have px := o.get (.head _)
 have ps := o.get (.tail _ hs)
 have pv := o.get (.tail _ hv)
 refine Ex.asg (EvP.to (EvP.bin (EvP.callD (f := 61) (by ktr_unf) (EvP.glob (by ktr_unf) IsTop.ref) (EvPL.cons (EvP.attr (EvP.loc rfl) (gp_RangeMap_starts pr px rfl)) (EvPL.cons (EvP.bin (EvP.loc rfl) EvP.cint BinP.sub) EvPL.nil)) (place_by_half_ok ps (by omega) _)) EvP.cint BinP.add) (Asg.name ?_))
 refine Ex.asg (EvP.to (EvP.bin (EvP.callD (f := 61) (by ktr_unf) (EvP.glob (by ktr_unf) IsTop.ref) (EvPL.cons (EvP.attr (EvP.loc rfl) (gp_RangeMap_starts pr px rfl)) (EvPL.cons (EvP.bin (EvP.loc rfl) EvP.cint BinP.add) EvPL.nil)) (place_by_half_ok ps (by omega) _)) EvP.cint BinP.add) (Asg.name ?_))
 have item : ∀ k : Int, 0 ≤ k → k < M.st.length → (M.vs.map D.str)[k.toNat]? = some (.str (M.vs.getD k.toNat ⟨#[]⟩)) := fun k g1 g2 => by
  have : k.toNat < M.vs.length := by omega
  simp [List.getD_eq_getElem?_getD, this]
 refine Ex.asg (EvP.to (EvP.item (EvP.attr (EvP.loc rfl) (gp_RangeMap_values pr px rfl)) (EvP.bin (EvP.loc rfl) EvP.cint BinP.sub) (ItemP.lst pv (by omega) (item _ (by omega) (by omega)) (by simp; omega))) (Asg.name ?_))
 refine Ex.asgS (names := [Str.ofString "starts", Str.ofString "values"]) ?_
 refine Ev.tup (EvL.cons (Ev.lst (EvPL.to (EvPL.cons (EvP.loc rfl) EvPL.nil) ⟨Nat.le_of_ble_eq_true rfl, fun sa hsa _ => ?_⟩)))
 refine EvL.cons (Ev.lst (EvPL.to (EvPL.cons (EvP.loc rfl) EvPL.nil) ⟨Nat.le_of_ble_eq_true rfl, fun va hva _ => EvL.nil ⟨Nat.le_of_ble_eq_true rfl, _, rfl, rfl, rfl, rfl, rfl, rfl, ?_⟩⟩))
 have o1 : Own H0 _ ((va, .lst [.str x]) :: (sa, .lst [.int f]) :: (rx, .dct (rmD M s v)) :: L0) := (o.alloc hsa).alloc hva
 revert o1; generalize (H.set sa _).set va _ = H1; intro o1
 generalize hB : M.vs.getD (halfP M.st (l + 1) + 1 - 1).toNat ⟨#[]⟩ = behind
 generalize hlow : halfP M.st (f - 1) + 1 = low at *
 generalize hhigh : halfP M.st (l + 1) + 1 = high at *
 have st1 : ∀ b : Bool, (bif b then [D.int f, D.int (l + 1)] else [D.int f]) = (bif b then [f, l + 1] else [f]).map D.int := fun b => by cases b <;> rfl
 refine Ex.iteJ (b := decide (l < 1114111) && !(behind == x)) (P := fun m' H' => (m' (Str.ofString "self") = some (.ref r) ∧ m' (Str.ofString "low") = some (.int low) ∧ m' (Str.ofString "high") = some (.int high) ∧ m' (Str.ofString "value") = some (.str x) ∧ m' (Str.ofString "starts") = some (.ref sa) ∧ m' (Str.ofString "values") = some (.ref va)) ∧
  Own H0 H' ((va, .lst ((bif decide (l < 1114111) && !(behind == x) then [x, behind] else [x]).map .str)) :: (sa, .lst ((bif decide (l < 1114111) && !(behind == x) then [f, l + 1] else [f]).map .int)) :: (rx, .dct (rmD M s v)) :: L0)) ?_ (fun e => ?_) (fun e => ?_) ?_
 ·refine EvPB.and (EvPB.cmp (EvP.loc rfl) (EvP.glob (v := .int 1114111 _) (by ktr_unf) (IsTop.s rfl)) CmpP.lt) fun _ => EvPB.and1 (EvPB.not (EvPB.plain (EvP.callD (f := 443) (by ktr_unf) (EvP.glob (by ktr_unf) IsTop.ref) (EvPL.cons (EvP.loc rfl) (EvPL.cons (EvP.loc rfl) EvPL.nil)) (range_are_like_ok behind x)) TruP.bool))
 ·rw [e]
  refine Ex.append (EvP.loc rfl) (o1.get (.tail _ (.head _))) (EvP.to (EvP.bin (EvP.loc rfl) EvP.cint BinP.add) ⟨_, o1.get (.tail _ (.head _)), Nat.le_of_ble_eq_true rfl, ?_⟩)
  have o2 := o1.upd (y := .lst ([.int f] ++ [.int (l + 1)])) 1 rfl
  revert o2; generalize H1.set sa _ = H2; intro o2
  refine Ex.append (EvP.loc rfl) (o2.get (.head _)) (EvP.to (EvP.loc rfl) ⟨_, o2.get (.head _), Nat.le_of_ble_eq_true rfl, Ex.nil ⟨rfl, ⟨rfl, rfl, rfl, rfl, rfl, rfl⟩, ?_⟩⟩)
  exact o2.upd (y := .lst ([.str x] ++ [.str behind])) 0 rfl
 ·rw [e]; exact ⟨⟨rfl, rfl, rfl, rfl, rfl, rfl⟩, o1⟩
 clear o1
 rintro m1 H2 ⟨⟨m1, m2, m3, m4, m5, m6⟩, o2⟩
 generalize hst1 : (bif decide (l < 1114111) && !(behind == x) then [f, l + 1] else [f]) = st1 at o2
 generalize hvs1 : (bif decide (l < 1114111) && !(behind == x) then [x, behind] else [x]) = vs1 at o2
 have ls1 : st1.length ≤ 2 := by rw [← hst1]; cases (decide (l < 1114111) && !(behind == x)) <;> simp
 have lv1 : vs1.length ≤ 2 := by rw [← hvs1]; cases (decide (l < 1114111) && !(behind == x)) <;> simp
 have pr := o2.get (.tail _ (.tail _ (.tail _ hr)))
 have px := o2.get (.tail _ (.tail _ (.head _)))
 have ps := o2.get (.tail _ (.tail _ (.tail _ hs)))
 have pv := o2.get (.tail _ (.tail _ (.tail _ hv)))
 refine Ex.iteJ (b := decide (low > 0) && (M.vs.getD (low - 1).toNat ⟨#[]⟩ == x)) (P := fun m' H' => ∃ sb vb, (m' (Str.ofString "self") = some (.ref r) ∧ m' (Str.ofString "low") = some (.int low) ∧ m' (Str.ofString "high") = some (.int high) ∧ m' (Str.ofString "starts") = some (.ref sb) ∧ m' (Str.ofString "values") = some (.ref vb)) ∧
  Own H0 H' ((vb, .lst ((bif decide (low > 0) && (M.vs.getD (low - 1).toNat ⟨#[]⟩ == x) then vs1.drop 1 else vs1).map .str)) :: (sb, .lst ((bif decide (low > 0) && (M.vs.getD (low - 1).toNat ⟨#[]⟩ == x) then st1.drop 1 else st1).map .int)) :: (rx, .dct (rmD M s v)) :: L0)) ?_ (fun e => ?_) (fun e => ?_) ?_
 ·refine EvPB.and (EvPB.cmp (EvP.loc m2) EvP.cint CmpP.gt) fun hp => EvPB.and1 (EvPB.plain (EvP.callD (f := 443) (by ktr_unf) (EvP.glob (by ktr_unf) IsTop.ref) (EvPL.cons ?_ (EvPL.cons (EvP.loc m4) EvPL.nil)) (range_are_like_ok _ x)) TruP.bool)
  have hp' : low > 0 := of_decide_eq_true hp
  exact EvP.item (EvP.attr (EvP.loc m1) (gp_RangeMap_values pr px rfl)) (EvP.bin (EvP.loc m2) EvP.cint BinP.sub) (ItemP.lst pv (by omega) (item _ (by omega) (by omega)) (by simp; omega))
 ·rw [e]
  refine Ex.asgS (names := [Str.ofString "starts", Str.ofString "values"]) ?_
  refine Ev.tup (EvL.cons (Ev.slc (EvP.to (EvP.loc m5) ⟨sa, _, _, _, _, rfl, LstAt.own (o2.get (.tail _ (.head _))), .yes EvP.cint, .no, .no, by simp, by simp; rw [sizeLine_eq]; omega, fun sb hsb => ?_⟩)))
  refine EvL.cons (Ev.slc (EvP.to (EvP.loc m6) ⟨va, _, _, _, _, rfl, LstAt.own (Hp.keep hsb (o2.get (.head _))), .yes EvP.cint, .no, .no, by simp, by simp; rw [sizeLine_eq]; omega, fun vb hvb => EvL.nil ⟨Nat.le_of_ble_eq_true rfl, _, rfl, rfl, rfl, rfl, rfl, rfl, Ex.nil ⟨rfl, sb, vb, ⟨?_, ?_, ?_, ?_, ?_⟩, ?_⟩⟩⟩))
  ·ktr_rel
  ·ktr_rel
  ·ktr_rel
  ·ktr_rel
  ·ktr_rel
  ·rw [pickL_from _ (by decide), pickL_from _ (by decide)]
   have o3 := ((o2.alloc hsb).alloc (x := .lst (pickL (vs1.map D.str) (some 1) none none)) hvb).weak (L' := (vb, _) :: (sb, _) :: (rx, .dct (rmD M s v)) :: L0) (.cons_cons _ (.cons_cons _ (.cons _ (.cons _ (.refl _)))))
   rw [pickL_from _ (by decide), pickL_from _ (by decide)] at o3
   simpa using o3
 ·rw [e]; exact ⟨sa, va, ⟨m1, m2, m3, m5, m6⟩, o2⟩
 clear o2 pr px ps pv m1 m2 m3 m4 m5 m6
 rintro m2 H3 ⟨sb, vb, ⟨m1, m2, m3, m4, m5⟩, o3⟩
 generalize hst2 : (bif decide (low > 0) && (M.vs.getD (low - 1).toNat ⟨#[]⟩ == x) then st1.drop 1 else st1) = st2 at o3
 generalize hvs2 : (bif decide (low > 0) && (M.vs.getD (low - 1).toNat ⟨#[]⟩ == x) then vs1.drop 1 else vs1) = vs2 at o3
 have ls2 : st2.length ≤ 2 := by rw [← hst2]; cases (decide (low > 0) && (M.vs.getD (low - 1).toNat ⟨#[]⟩ == x)) <;> simp <;> omega
 have lv2 : vs2.length ≤ 2 := by rw [← hvs2]; cases (decide (low > 0) && (M.vs.getD (low - 1).toNat ⟨#[]⟩ == x)) <;> simp <;> omega
 have hput : M.put f l x = ⟨M.st.take low.toNat ++ st2 ++ M.st.drop high.toNat, M.vs.take low.toNat ++ vs2 ++ M.vs.drop high.toNat, M.df⟩ := by
  unfold RM.put
  simp only
  rw [hhigh, hB, hlow, hst1, hvs1, hst2, hvs2]
 have tk : ∀ {α : Type} (l : List α) (k : Int), 0 ≤ k → pickL l none (some k) none = l.take k.toNat := fun l k h => pickL_upto l h
 have dr : ∀ {α : Type} (l : List α) (k : Int), 0 ≤ k → pickL l (some k) none none = l.drop k.toNat := fun l k h => pickL_from l h
 have pr := o3.get (.tail _ (.tail _ (.tail _ hr)))
 have px := o3.get (.tail _ (.tail _ (.head _)))
 have ps := o3.get (.tail _ (.tail _ (.tail _ hs)))
 have sl : sizeLine = 16777216 := sizeLine_eq
 refine Ex.asgA (Ev.bin (Ev.bin (Ev.slc (EvP.to (EvP.attr (EvP.loc m1) (gp_RangeMap_starts pr px rfl)) ⟨s, _, _, _, _, rfl, LstAt.own ps, .no, .yes (EvP.loc m2), .no, by simp, by simp; omega, fun c1 h1 => ?_⟩))))
 refine EvP.to (EvP.loc m4) (Bin.addL (LstAt.own (Hp.set_self ..)) (LstAt.own (Hp.keep h1 (o3.get (.tail _ (.head _))))) ?z1 (fun c2 h2 => ?_))
 case z1 => rw [tk _ _ (by omega)]; simp; omega
 refine Ev.slc (EvP.to (EvP.attr (EvP.loc m1) (gp_RangeMap_starts (Hp.keep h2 (Hp.keep h1 pr)) (Hp.keep h2 (Hp.keep h1 px)) rfl)) ⟨s, _, _, _, _, rfl, LstAt.own (Hp.keep h2 (Hp.keep h1 ps)), .yes (EvP.loc m3), .no, .no, by simp, by simp; omega, fun c3 h3 => ?_⟩)
 refine Bin.addL (LstAt.own (Hp.keep h3 (Hp.set_self ..))) (LstAt.own (Hp.set_self ..)) ?z2 (fun s' h4 => ?_)
 case z2 => rw [tk _ _ (by omega), dr _ _ (by omega)]; simp; omega
 have o4 := (((o3.alloc (x := .lst (pickL (M.st.map .int) none (some low) none)) h1).alloc (x := .lst (pickL (M.st.map .int) none (some low) none ++ st2.map .int)) h2).alloc (x := .lst (pickL (M.st.map .int) (some high) none none)) h3).alloc (x := .lst (pickL (M.st.map .int) none (some low) none ++ st2.map .int ++ pickL (M.st.map .int) (some high) none none)) h4
 refine (EvP.loc m1).to (sa_RangeMap_starts (Hp.keep h4 (Hp.keep h3 (Hp.keep h2 (Hp.keep h1 pr)))) (Hp.keep h4 (Hp.keep h3 (Hp.keep h2 (Hp.keep h1 px)))) (Nat.le_of_ble_eq_true rfl) ?_)
 have o5 := (o4.upd (y := .dct [(ss "default", .str M.df), (ss "starts", .ref s'), (ss "values", .ref v)]) 6 rfl).weak (L' := (s', .lst (pickL (M.st.map .int) none (some low) none ++ st2.map .int ++ pickL (M.st.map .int) (some high) none none)) :: (vb, .lst (vs2.map .str)) :: (rx, .dct [(ss "default", .str M.df), (ss "starts", .ref s'), (ss "values", .ref v)]) :: L0) (.cons_cons _ (.cons _ (.cons _ (.cons _ (.cons_cons _ (.cons _ (.refl _)))))))
 revert o5
 generalize eH : ((((H3.set c1 _).set c2 _).set c3 _).set s' _).set rx (X.dct [(ss "default", .str M.df), (ss "starts", .ref s'), (ss "values", .ref v)]) = H4
 intro o5
 replace eH : ((((H3.set c1 (X.lst (pickL (M.st.map .int) none (some low) none))).set c2 (.lst (pickL (M.st.map .int) none (some low) none ++ st2.map .int))).set c3 (.lst (pickL (M.st.map .int) (some high) none none))).set s' (.lst (pickL (M.st.map .int) none (some low) none ++ st2.map .int ++ pickL (M.st.map .int) (some high) none none))).set rx (X.dct (sput (Str.ofString "starts") (.ref s') (rmD M s v))) = H4 := eH
 rw [eH]; clear eH o4 h1 h2 h3 h4 c1 c2 c3 pr px ps o3
 have pr := o5.get (.tail _ (.tail _ (.tail _ hr)))
 have px := o5.get (.tail _ (.tail _ (.head _)))
 have pv := o5.get (.tail _ (.tail _ (.tail _ hv)))
 refine Ex.asgA (Ev.bin (Ev.bin (Ev.slc (EvP.to (EvP.attr (EvP.loc m1) (gp_RangeMap_values pr px rfl)) ⟨v, _, _, _, _, rfl, LstAt.own pv, .no, .yes (EvP.loc m2), .no, by simp, by simp; omega, fun c1 h1 => ?_⟩))))
 refine EvP.to (EvP.loc m5) (Bin.addL (LstAt.own (Hp.set_self ..)) (LstAt.own (Hp.keep h1 (o5.get (.tail _ (.head _))))) ?z1 (fun c2 h2 => ?_))
 case z1 => rw [tk _ _ (by omega)]; simp; omega
 refine Ev.slc (EvP.to (EvP.attr (EvP.loc m1) (gp_RangeMap_values (Hp.keep h2 (Hp.keep h1 pr)) (Hp.keep h2 (Hp.keep h1 px)) rfl)) ⟨v, _, _, _, _, rfl, LstAt.own (Hp.keep h2 (Hp.keep h1 pv)), .yes (EvP.loc m3), .no, .no, by simp, by simp; omega, fun c3 h3 => ?_⟩)
 refine Bin.addL (LstAt.own (Hp.keep h3 (Hp.set_self ..))) (LstAt.own (Hp.set_self ..)) ?z2 (fun v' h4 => ?_)
 case z2 => rw [tk _ _ (by omega), dr _ _ (by omega)]; simp; omega
 have o6 := (((o5.alloc (x := .lst (pickL (M.vs.map .str) none (some low) none)) h1).alloc (x := .lst (pickL (M.vs.map .str) none (some low) none ++ vs2.map .str)) h2).alloc (x := .lst (pickL (M.vs.map .str) (some high) none none)) h3).alloc (x := .lst (pickL (M.vs.map .str) none (some low) none ++ vs2.map .str ++ pickL (M.vs.map .str) (some high) none none)) h4
 refine (EvP.loc m1).to (sa_RangeMap_values (Hp.keep h4 (Hp.keep h3 (Hp.keep h2 (Hp.keep h1 pr)))) (Hp.keep h4 (Hp.keep h3 (Hp.keep h2 (Hp.keep h1 px)))) (Nat.le_of_ble_eq_true rfl) (Ex.nil (q s' v' _ ?_)))
 have o7 := (o6.upd (y := .dct [(ss "default", .str M.df), (ss "starts", .ref s'), (ss "values", .ref v')]) 6 rfl).weak (L' := (v', .lst (pickL (M.vs.map .str) none (some low) none ++ vs2.map .str ++ pickL (M.vs.map .str) (some high) none none)) :: (s', .lst (pickL (M.st.map .int) none (some low) none ++ st2.map .int ++ pickL (M.st.map .int) (some high) none none)) :: (rx, .dct [(ss "default", .str M.df), (ss "starts", .ref s'), (ss "values", .ref v')]) :: L0) (.cons_cons _ (.cons _ (.cons _ (.cons _ (.cons_cons _ (.cons _ (.refl _)))))))
 have o8 := o7.perm (((List.Perm.swap _ _ _).cons _).trans ((List.Perm.swap _ _ _).trans ((List.Perm.swap _ _ _).cons _)))
 rw [hput]
 simp only [List.map_append, List.map_take, List.map_drop]
 rw [tk (M.vs.map D.str) _ (by omega), dr (M.vs.map D.str) _ (by omega)]
 rw [tk (M.vs.map D.str) _ (by omega), dr (M.vs.map D.str) _ (by omega), tk (M.st.map D.int) _ (by omega), dr (M.st.map D.int) _ (by omega)] at o8
 exact o8
end
structure Ent4 where
 k : Str
 r : Addr
 rx : Addr
 s : Addr
 v : Addr
 M : RM
noncomputable def Ent4.objs (e : Ent4) : List (Addr × X) := [(e.rx, .dct (rmD e.M e.s e.v)), (e.r, .ins 488 e.rx), (e.s, .lst (e.M.st.map .int)), (e.v, .lst (e.M.vs.map .str))]
noncomputable def mapsE (es : List Ent4) : List (D × D) := es.map fun e => (.str e.k, .ref e.r)
noncomputable def dbL (da dx a1 a2 a3 a4 : Addr) (dl : List (D × D)) (es : List Ent4) : List (Addr × X) :=
 (da, .ins 537 dx) :: (dx, .dct (dtD a1 a2 a3 a4)) :: (a1, .dct dl) :: (a2, .dct (mapsE es)) :: es.flatMap Ent4.objs
noncomputable def kms (es : List Ent4) : List (Str × RM) := es.map fun e => (e.k, e.M)
noncomputable def addL (k df : Str) (Ls : List (Str × RM)) : List (Str × RM) := if (Ls.any fun p => p.1 == k) then Ls else Ls ++ [(k, ⟨[0], [df], df⟩)]
noncomputable def updF (k : Str) (F : RM → RM) : List (Str × RM) → List (Str × RM)
 | [] => []
 | (j, M) :: r => if j = k then (j, F M) :: r else (j, M) :: updF k F r
noncomputable def mput (k df : Str) (f l : Int) (x : Str) (Ls : List (Str × RM)) : List (Str × RM) := updF k (fun M => M.put f l x) (addL k df Ls)
theorem updF_at {k : Str} {F : RM → RM} {M : RM} {B : List (Str × RM)} : ∀ {A : List (Str × RM)}, (∀ p ∈ A, p.1 ≠ k) → updF k F (A ++ (k, M) :: B) = A ++ (k, F M) :: B
 | [], _ => by simp [updF]
 | (j, N) :: A, h => by
  have : j ≠ k := h (j, N) (.head _)
  show (if j = k then _ else (j, N) :: updF k F (A ++ (k, M) :: B)) = _
  rw [if_neg this, updF_at fun p hp => h p (.tail _ hp)]; rfl
theorem mapsE_find (k : Str) : ∀ es : List Ent4, match kget (.inl k) (mapsE es) with
  | some d => ∃ A e B, es = A ++ e :: B ∧ e.k = k ∧ d = .ref e.r ∧ ∀ p ∈ A, p.k ≠ k
  | none => ∀ e ∈ es, e.k ≠ k
 | [] => fun e h => by cases h
 | e :: es => by
  have ih := mapsE_find k es
  show match kget (.inl k) ((.str e.k, .ref e.r) :: mapsE es) with | some d => _ | none => _
  unfold kget
  by_cases q : e.k = k
  ·simp only [kt, q, decide_true, if_true]
   exact ⟨[], e, es, rfl, q, rfl, fun p hp => by cases hp⟩
  ·simp only [kt, q, decide_false, Bool.false_eq_true, if_false]
   cases h : kget (.inl k) (mapsE es) with
   | some d =>
    rw [h] at ih
    obtain ⟨A, e', B, h1, h2, h3, h4⟩ := ih
    exact ⟨e :: A, e', B, by rw [h1]; rfl, h2, h3, fun p hp => by
     cases hp with
     | head => exact q
     | tail _ hp => exact h4 p hp⟩
   | none =>
    rw [h] at ih
    exact fun p hp => by
     cases hp with
     | head => exact q
     | tail _ hp => exact ih p hp
section
variable {w : World} {mg mb : Str → Option Value} {lo : Lo} {n : Nat} {H : Hp}
structure Dfl (l : List (D × D)) (b : Nat) : Prop where
 df : DF l
 nd : knodB l = true
 t : TFd l
 z : l.length ≤ b
theorem Dfl.put {l : List (D × D)} {b : Nat} {x : Str} {d : D} (h : Dfl l b) (hx : ¬ (x == Str.ofString "lb" || x == Str.ofString "gc" || x == Str.ofString "ea") = true) (hd : tf d = true) : Dfl (kput (.inl x) d l) (b + 1) := by
 simp only [Bool.or_eq_true, not_or, beq_iff_eq] at hx
 obtain ⟨⟨h1, h2⟩, h3⟩ := hx
 have ne : ∀ {y : Str}, ¬ x = y → (Sum.inl y : Ky) ≠ .inl x := fun h z => h (Sum.inl.inj z).symm
 exact ⟨⟨(kget_kput_ne (ne h1) l).trans h.df.lb, (kget_kput_ne (ne h2) l).trans h.df.gc, (kget_kput_ne (ne h3) l).trans h.df.ea⟩, knodB_kput h.nd, h.t.kput hd, Nat.le_trans (kput_len l) (Nat.succ_le_succ h.z)⟩
theorem Dfl.le {l : List (D × D)} {b c : Nat} (h : Dfl l b) (k : b ≤ c) : Dfl l c := ⟨h.df, h.nd, h.t, Nat.le_trans h.z k⟩
theorem fill_loop {env : Env} {m : Loc} {iter value : Expr} {pos pos' pos'' p1 p2 : Pos} {rest : List Stmt} {Q : Fl → Loc → Hp → Prop} {a : Addr} {H0 : Hp} {b : Nat} (ds : List D) (hn : 1 ≤ n) (hf : m (Str.ofString "found") = some (.ref a)) (ho : ∃ l, Own H0 H [(a, .dct l)] ∧ Dfl l b)
  (hi : EvP (mkG w mg mb lo) n env m H iter (.tup ds)) (hds : ds.all (fun d => match d with | .str x => !(x == Str.ofString "lb" || x == Str.ofString "gc" || x == Str.ofString "ea") | _ => false) = true) (hb : b + ds.length ≤ 100)
  (hv : ∀ m1 H1, m1 (Str.ofString "found") = some (.ref a) → ∀ Q : D → Hp → Prop, (∀ d, tf d = true → Q d H1) → Ev (mkG w mg mb lo) n env m1 H1 value Q)
  (h : ∀ m' H', m' (Str.ofString "found") = some (.ref a) → (∃ l, Own H0 H' [(a, .dct l)] ∧ Dfl l (b + ds.length)) → Ex (mkG w mg mb lo) n env m' H' rest Q)
  (hs : autoParam (swapsWith value (some (.Subscript (.Name (Str.ofString "found") p1) (.Name (Str.ofString "name") p2) pos')) pos''.line env = pure false) aR)
  (hk : autoParam (env.scope.kind = .function) aR) (hx1 : autoParam (env.kindOf (Str.ofString "found") = some .local) aR) (hx2 : autoParam (env.kindOf (Str.ofString "name") = some .local) aR)
  (hfo : autoParam (∀ y, foldedSetIterable iter env y = pure y) aI) {tp : Pos} :
  Ex (mkG w mg mb lo) n env m H (.For (.Name (Str.ofString "name") tp) iter [.Assign [.Subscript (.Name (Str.ofString "found") p1) (.Name (Str.ofString "name") p2) pos'] value pos''] [] pos :: rest) Q := by
 refine Ex.forTup hn hi rfl ?_ hfo
 refine Lp.inv (fun i m' H' => m' (Str.ofString "found") = some (.ref a) ∧ ∃ l, Own H0 H' [(a, .dct l)] ∧ Dfl l (b + i)) ?_ ?_ ⟨hf, ho⟩
 ·rintro i e m1 H1 he ⟨m2, l, o, hl⟩
  have h1 := List.all_eq_true.mp hds e (List.mem_of_getElem? he)
  have hi : i < ds.length := (List.getElem?_eq_some_iff.mp he).1
  refine ⟨trivial, Asg.name ?_ hk hx2⟩
  cases e with
  | str x =>
   refine Ex.asgI (hv (lset m1 (Str.ofString "name") (.str x)) H1 (lset_get (by decide) m2) _ (fun d hd => EvP.to (EvP.loc (lset_get (by decide) m2) hk hx1) (EvP.to (EvP.loc lset_self hk hx2) ?_))) hs
   refine SetI.dct (k := .inl x) (o.get (.head _)) hl.nd (Ex.nil ⟨lset_get (by decide) m2, _, o.upd 0 rfl, hl.put (by simpa using h1) hd⟩) ?_
   have := hl.z; rw [sizeLine_eq]; one_sign
  | _ => cases h1
 ·rintro m1 H1 ⟨m2, l, o, hl⟩
  exact ⟨trivial, h m1 H1 m2 ⟨l, o, hl⟩⟩
theorem EvD.cs {G : Gd} {env : Env} {m : Loc} {x : Str} {c : Nat} {kp pos : Pos} {e : Expr} {d : D} {ks : List (Option Expr)} {vs : List Expr} {Q : List (D × D) → Hp → Prop} (h : EvP G n env m H e d) (r : EvD G n env m H pos ks vs fun l H3 => Q ((.str x, d) :: l) H3) : EvD G n env m H pos (some (.Constant (.str x) c kp) :: ks) (e :: vs) Q :=
 EvD.cons (.inl x) (EvP.cstr.to ⟨rfl, h.to r⟩)
theorem data_defaults_ok {Q : D → Hp → Prop} (q : ∀ a l H', Own H H' [(a, .dct l)] → Dfl l 100 → Q (.ref a) H') : CalC (mkG w mg mb lo) (n + 2) H (.ref 499) [] Q := by
 refine CalC.fn (es := []) [] (by ktr_unf) (by ktr_unf) (fun B T s vs k i => ⟨[], by cases i; exact BindsTo.of_eq rfl, .nil⟩) (fun L hL => ?_)
 refine' Ex.asg ?x1 ?x2
 case x2 => rfl
 case x1 =>
 refine' Ev.dict ?a1 ?a2 ?a3 ?a4 ?a5
 case a2 => rfl
 case a3 => rfl
 case a4 => simp
 case a5 => decide
 case a1 =>
 refine EvD.cs EvP.cstr ?_
 refine EvD.cs EvP.cint ?_
 refine EvD.cs EvP.cstr ?_
 refine EvD.cs EvP.cstr ?_
 refine EvD.cs EvP.cstr ?_
 refine EvD.cs EvP.cstr ?_
 refine EvD.cs EvP.cstr ?_
 refine EvD.cs EvP.cstr ?_
 refine EvD.nil ⟨by decide +kernel, fun a ha => Asg.name ?_⟩
 have d0 : Dfl [(ss "gc", ss "Cn"), (ss "ccc", .int 0), (ss "bc", ss "L"), (ss "lb", ss "XX"), (ss "ea", ss "N"), (ss "sc", ss "Zzzz"), (ss "jt", ss "U"), (ss "incb", ss "None")] 8 := ⟨⟨rfl, rfl, rfl⟩, by decide +kernel, fun p hp => (by
  simp only [List.mem_cons, List.not_mem_nil, or_false] at hp
  rcases hp with rfl | rfl | rfl | rfl | rfl | rfl | rfl | rfl <;> rfl), Nat.le_refl _⟩
 have o0 : Own H (H.set a (.dct [(ss "gc", ss "Cn"), (ss "ccc", .int 0), (ss "bc", ss "L"), (ss "lb", ss "XX"), (ss "ea", ss "N"), (ss "sc", ss "Zzzz"), (ss "jt", ss "U"), (ss "incb", ss "None")])) [(a, .dct [(ss "gc", ss "Cn"), (ss "ccc", .int 0), (ss "bc", ss "L"), (ss "lb", ss "XX"), (ss "ea", ss "N"), (ss "sc", ss "Zzzz"), (ss "jt", ss "U"), (ss "incb", ss "None")])] := (Own.refl H).alloc ha
 revert o0; generalize H.set a _ = H1; intro o0
 have e3 : ∃ l, Own H H1 [(a, .dct l)] ∧ Dfl l 8 := ⟨_, o0, d0⟩
 clear o0 d0
 refine fill_loop (a := a) (b := 8) [ss "gcb", ss "wb", ss "sb"] (by one_sign) lset_self e3 (EvP.tup (by tb_start)) (by decide +kernel) (by decide) (fun m1 H1 hm Q q => EvP.cstr.to (q _ rfl)) ?_
 intro m2 H2 hm2 e4
 refine fill_loop (a := a) (b := 11) [ss "ex", ss "sd", ss "cased", ss "ci", ss "ep", ss "di", ss "ids", ss "idc", ss "xids", ss "xidc", ss "pat_syn", ss "pat_ws", ss "idst"] (by one_sign) hm2 e4 (EvP.tup (by tb_start)) (by decide +kernel) (by decide) (fun m1 H1 hm Q q => EvP.cbool.to (q _ rfl)) ?_
 intro m3 H3 hm3 e5
 refine fill_loop (a := a) (b := 24) [ss "dm", ss "uc", ss "lc", ss "tc", ss "cf", ss "bm", ss "bpb", ss "scx", ss "nt", ss "nv", ss "name", ss "conf", ss "nfkc_cf"] (by one_sign) hm3 e5 (EvP.tup (by tb_start)) (by decide +kernel) (by decide) (fun m1 H1 hm Q q => EvP.cnone.to (q _ rfl)) ?_
 intro m4 H4 hm4 e6
 refine fill_loop (a := a) (b := 37) [ss "suc", ss "slc", ss "stc", ss "alias"] (by one_sign) hm4 e6 (EvP.tup (by tb_start)) (by decide +kernel) (by decide) (fun m1 H1 hm Q q => Ev.opq (EvP.to (EvP.tup EvPL.nil) ⟨⟨_, rfl⟩, fun a => q _ rfl⟩)) ?_
 rintro m5 H5 hm5 ⟨l, o, hl⟩
 refine Ex.asgI (Ev.opq (EvP.to (EvP.tup (EvPL.cons EvP.cstr (EvPL.cons (EvP.tup EvPL.nil) EvPL.nil))) ⟨⟨_, rfl⟩, fun t => EvP.to (EvP.loc hm5) (EvP.cstr.to ?_)⟩))
 refine SetI.dct (k := .inl (Str.ofString "idna")) (o.get (.head _)) hl.nd (Ex.ret (EvP.to (EvP.loc hm5) (q a _ _ (o.upd 0 rfl) ((hl.put (by decide +kernel) rfl).le (by decide))))) ?_
 have := hl.z; rw [sizeLine_eq]; simp at this; one_sign
theorem Data_ok {Q : D → Hp → Prop} (q : ∀ da dx a1 a2 a3 a4 dl H', Dfl dl 100 → Own H H' (dbL da dx a1 a2 a3 a4 dl []) → Q (.ref da) H') : CalC (mkG w mg mb lo) (n + 4) H (.ref 537) [] Q := by
 refine CalC.cls (fI := 513) (by ktr_unf) (by ktr_unf) (by ktr_unf) (fun x dx hx hdx hne => ?_)
 refine CalC.fn (es := [.ref x]) [Str.ofString "self"] (by ktr_unf) (by ktr_unf) (fun B T s vs k i => BindsTo.one (fun a => rfl) i) (fun L hL => ?_)
 have o0 : Own H ((H.set dx (.dct [])).set x (.ins 537 dx)) [(x, .ins 537 dx), (dx, .dct [])] := inst_own hx hdx hne
 revert o0 hL; generalize (H.set dx (.dct [])).set x (.ins 537 dx) = H0; intro hL o0
 refine Ex.asgA (Ev.callG0 (by ktr_unf) (by ktr_unf) (CalC.cal (data_defaults_ok fun a1 dl H1 o1 hdl => ?_)))
 have o2 := o0.trans o1
 refine (EvP.loc rfl).to (sa_Data_defaults (o2.get (.tail _ (.head _))) (o2.get (.tail _ (.tail _ (.head _)))) (Nat.le_of_ble_eq_true rfl) ?_)
 have o3 := o2.upd (y := .dct (sput (Str.ofString "defaults") (.ref a1) [])) 2 rfl
 revert o3; generalize H1.set dx _ = H3; intro o3
 clear o0 o1 o2
 refine Ex.asgA (Ev.dict0 (fun a2 h2 => ?_))
 have o4 := o3.alloc (x := .dct []) h2
 refine (EvP.loc rfl).to (sa_Data_maps (o4.get (.tail _ (.tail _ (.head _)))) (o4.get (.tail _ (.tail _ (.tail _ (.head _))))) (Nat.le_of_ble_eq_true rfl) ?_)
 have o5 := o4.upd (y := .dct (sput (Str.ofString "maps") (.ref a2) (sput (Str.ofString "defaults") (.ref a1) []))) 3 rfl
 revert o5; generalize (H3.set a2 _).set dx _ = H5; intro o5
 clear o3 o4 h2
 refine Ex.asgA (Ev.dict0 (fun a3 h3 => ?_))
 have o6 := (o5.alloc (x := .dct []) h3)
 refine (EvP.loc rfl).to (sa_Data_properties (o6.get (.tail _ (.tail _ (.tail _ (.head _))))) (o6.get (.tail _ (.tail _ (.tail _ (.tail _ (.head _)))))) (Nat.le_of_ble_eq_true rfl) ?_)
 have o7 := o6.upd (y := .dct (sput (Str.ofString "properties") (.ref a3) (sput (Str.ofString "maps") (.ref a2) (sput (Str.ofString "defaults") (.ref a1) [])))) 4 rfl
 revert o7; generalize (H5.set a3 _).set dx _ = H7; intro o7
 clear o5 o6 h3
 refine Ex.asgA (Ev.dict0 (fun a4 h4 => ?_))
 have o8 := (o7.alloc (x := .dct []) h4)
 refine (EvP.loc rfl).to (sa_Data_words (o8.get (.tail _ (.tail _ (.tail _ (.tail _ (.head _)))))) (o8.get (.tail _ (.tail _ (.tail _ (.tail _ (.tail _ (.head _))))))) (Nat.le_of_ble_eq_true rfl) (Ex.nil ⟨rfl, q x dx a1 a2 a3 a4 dl _ hdl ?_⟩))
 have o9 := (o8.upd (y := .dct (dtD a1 a2 a3 a4)) 5 rfl).weak (L' := [(a2, .dct []), (a1, .dct dl), (x, .ins 537 dx), (dx, .dct (dtD a1 a2 a3 a4))]) (.cons _ (.cons _ (.refl _)))
 exact o9.perm (((List.reverse_perm _).symm).trans (List.Perm.swap _ _ _))
end
theorem RM.new_ok (df : Str) : RM.Ok ⟨[0], [df], df⟩ := ⟨rfl, by simp, by simp, rfl⟩
theorem mapsE_app (A B : List Ent4) : mapsE (A ++ B) = mapsE A ++ mapsE B := List.map_append
theorem mapsE_snoc {k : Str} {r : Addr} : ∀ {es : List Ent4}, (∀ e ∈ es, e.k ≠ k) → kput (.inl k) (.ref r) (mapsE es) = mapsE es ++ [(.str k, .ref r)]
 | [], _ => rfl
 | e :: es, h => by
  have : ¬ kt (.inl k) (.str e.k) = true := by simp [kt]; exact h e (.head _)
  show kput (.inl k) (.ref r) ((.str e.k, .ref e.r) :: mapsE es) = _
  unfold kput
  rw [if_neg this, mapsE_snoc fun p hp => h p (.tail _ hp)]; rfl
theorem addL_new {k df : Str} {es : List Ent4} (h : ∀ e ∈ es, e.k ≠ k) : addL k df (kms es) = kms es ++ [(k, ⟨[0], [df], df⟩)] := by
 unfold addL
 rw [if_neg]
 rw [Bool.not_eq_true, List.any_eq_false]
 intro p hp
 obtain ⟨e, he, rfl⟩ := List.mem_map.mp hp
 simpa using h e he
theorem addL_old {k df : Str} {es : List Ent4} {e : Ent4} (h : e ∈ es) (hk : e.k = k) : addL k df (kms es) = kms es := by
 unfold addL
 rw [if_pos]
 rw [List.any_eq_true]
 exact ⟨(e.k, e.M), List.mem_map.mpr ⟨e, h, rfl⟩, by simp [hk]⟩
section
variable {w : World} {mg mb : Str → Option Value} {lo : Lo} {n : Nat} {H : Hp}
theorem map_of_ok {H0 : Hp} {da dx a1 a2 a3 a4 : Addr} {dl : List (D × D)} {es : List Ent4} {k df : Str} {Q : D → Hp → Prop} (o : Own H0 H (dbL da dx a1 a2 a3 a4 dl es)) (hdl : kget (.inl k) dl = some (.str df)) (hnd : knodB (mapsE es) = true) (hz : es.length ≤ 100)
  (q : ∀ A e B H', e.k = k → (∀ p ∈ A, p.k ≠ k) → kms (A ++ e :: B) = addL k df (kms es) → knodB (mapsE (A ++ e :: B)) = true → Own H0 H' (dbL da dx a1 a2 a3 a4 dl (A ++ e :: B)) → Q (.ref e.r) H') :
  CalC (mkG w mg mb lo) (n + 4) H (.ref 534) [.ref da, .str k] Q := by
 have e1 := o.get (.head _)
 have e2 := o.get (.tail _ (.head _))
 have e3 := o.get (.tail _ (.tail _ (.head _)))
 have e4 := o.get (.tail _ (.tail _ (.tail _ (.head _))))
 refine CalC.fn (es := [.ref da, .str k]) [Str.ofString "self", Str.ofString "name"] (by ktr_unf) (by ktr_unf) (fun B T s vs k i => BindsTo.two (fun a b => rfl) i) (fun L hL => ?_)
 have hf := mapsE_find k es
 refine Ex.iteJ (b := !(kget (.inl k) (mapsE es)).isSome) (P := fun m' H' => m' (Str.ofString "self") = some (.ref da) ∧ m' (Str.ofString "name") = some (.str k) ∧ ∃ A e B, e.k = k ∧ (∀ p ∈ A, p.k ≠ k) ∧ kms (A ++ e :: B) = addL k df (kms es) ∧ knodB (mapsE (A ++ e :: B)) = true ∧ kget (.inl k) (mapsE (A ++ e :: B)) = some (.ref e.r) ∧ Own H0 H' (dbL da dx a1 a2 a3 a4 dl (A ++ e :: B))) ?_ (fun eb => ?_) (fun eb => ?_) ?_
 ·exact EvPB.cmp (EvP.loc rfl) (EvP.attr (EvP.loc rfl) (gp_Data_maps e1 e2 rfl)) (CmpP.ninD (k := .inl k) (DctAt.own e4))
 ·have eb' : kget (.inl k) (mapsE es) = none := by simpa using eb
  rw [eb'] at hf
  refine Ex.asgI (Ev.callG (by ktr_unf) (by ktr_unf) (EvPL.to (EvPL.cons (EvP.conv (d' := .str df) (EvP.dget hL (EvP.attr (EvP.loc rfl) (gp_Data_defaults e1 e2 rfl)) e3 (EvP.loc rfl)) (by rw [hdl]; rfl)) EvPL.nil) (CalC.cal (CalC.le (RangeMap_ok (n := n) fun r rx s v H1 o1 => ?_) (by one_sign)))))
  have o2 := o.trans o1
  have p2 := o2.get (.tail _ (.tail _ (.tail _ (.tail _ (.head _)))))
  have p3 := o2.get (.tail _ (.tail _ (.tail _ (.tail _ (.tail _ (.head _))))))
  have p4 := o2.get (.tail _ (.tail _ (.tail _ (.tail _ (.tail _ (.tail _ (.tail _ (.head _))))))))
  refine EvP.to (EvP.attr (EvP.loc rfl) (gp_Data_maps p2 p3 rfl)) (EvP.to (EvP.loc rfl) (SetI.dct (k := .inl k) p4 hnd (Ex.nil ⟨rfl, rfl, rfl, es, ⟨k, r, rx, s, v, ⟨[0], [df], df⟩⟩, [], rfl, hf, ?_, ?_, ?_, ?_⟩) ?_))
  ·rw [addL_new hf]; unfold kms; rw [List.map_append]; rfl
  ·rw [mapsE_app]; show knodB (mapsE es ++ [(.str k, .ref r)]) = true
   rw [← mapsE_snoc hf]; exact knodB_kput hnd
  ·rw [mapsE_app]; show kget (.inl k) (mapsE es ++ [(.str k, .ref r)]) = _
   rw [← mapsE_snoc hf, kget_kput_self]
  ·have o3 := o2.upd (y := .dct (kput (.inl k) (.ref r) (mapsE es))) 7 rfl
   refine o3.perm ?_
   rw [mapsE_snoc hf]
   show List.Perm ((v, _) :: (s, _) :: (r, _) :: (rx, _) :: (da, _) :: (dx, _) :: (a1, _) :: (a2, _) :: es.flatMap Ent4.objs) ((da, _) :: (dx, _) :: (a1, _) :: (a2, X.dct (mapsE (es ++ [_]))) :: (es ++ [_]).flatMap Ent4.objs)
   rw [mapsE_app, List.flatMap_append]
   show List.Perm ([(v, _), (s, _), (r, _), (rx, _)] ++ ((da, _) :: (dx, _) :: (a1, _) :: (a2, _) :: es.flatMap Ent4.objs)) (((da, _) :: (dx, _) :: (a1, _) :: (a2, _) :: es.flatMap Ent4.objs) ++ [(rx, _), (r, _), (s, _), (v, _)])
   refine (List.perm_append_comm).trans (List.Perm.append_left _ ?_)
   exact (List.reverse_perm _).symm.trans (List.Perm.refl _)
  ·show (mapsE es).length ≤ sizeLine
   rw [sizeLine_eq]; unfold mapsE; rw [List.length_map]; one_sign
 ·have eb' : ∃ d, kget (.inl k) (mapsE es) = some d := by
   cases h : kget (.inl k) (mapsE es) with
   | some d => exact ⟨d, rfl⟩
   | none => rw [h] at eb; cases eb
  obtain ⟨d, ed⟩ := eb'
  rw [ed] at hf
  obtain ⟨A, e, B, rfl, h2, rfl, h4⟩ := hf
  exact ⟨rfl, rfl, A, e, B, h2, h4, (addL_old (List.mem_append_right _ (.head _)) h2).symm, hnd, ed, o⟩
 ·rintro m1 H1 ⟨m1, m2, A, e, B, g1, g2, g3, g4, g5, o1⟩
  have p1 := o1.get (.head _)
  have p2 := o1.get (.tail _ (.head _))
  have p4 := o1.get (.tail _ (.tail _ (.tail _ (.head _))))
  exact Ex.ret (EvP.to (EvP.item (EvP.attr (EvP.loc m1) (gp_Data_maps p1 p2 rfl)) (EvP.loc m2) (ItemP.dct (k := .inl k) (DctAt.own p4) g5)) (q A e B H1 g1 g2 g3 g4 o1))
end
structure DB (H0 H : Hp) (da : Addr) (Ls : List (Str × RM)) : Prop where
 ex : ∃ dx a1 a2 a3 a4 dl es, Dfl dl 100 ∧ kms es = Ls ∧ knodB (mapsE es) = true ∧ Own H0 H (dbL da dx a1 a2 a3 a4 dl es)
 ok : ∀ p ∈ Ls, p.2.Ok
theorem RM.put_new {df : Str} {Ls : List (Str × RM)} {k : Str} (h : ∀ p ∈ Ls, p.2.Ok) : ∀ p ∈ addL k df Ls, p.2.Ok := by
 unfold addL
 split
 ·exact h
 ·intro p hp
  rcases List.mem_append.mp hp with hp | hp
  ·exact h p hp
  ·rw [List.mem_singleton.mp hp]; exact RM.new_ok df
noncomputable def lsW (Ls : List (Str × RM)) (k d : Str) (c : Int) : Str := match Ls.lookup k with
 | some M => M.at c
 | none => d
section
variable {w : World} {mg mb : Str → Option Value} {lo : Lo} {n : Nat} {H : Hp}
theorem data_put_ok {H0 : Hp} {da : Addr} {Ls : List (Str × RM)} {k df x : Str} {f l : Int} {Q : D → Hp → Prop} (h : DB H0 H da Ls) (hdf : ∀ l, DF l → kget (.inl k) l = some (.str df)) (hz : Ls.length ≤ 90) (h0 : 0 ≤ f) (h1 : f ≤ l) (h2 : l < 1000000)
  (hok : ∀ p ∈ mput k df f l x Ls, p.2.Ok) (q : ∀ H', DB H0 H' da (mput k df f l x Ls) → Q .none H') : CalC (mkG w mg mb lo) (n + 5) H (.ref 520) [.ref da, .str k, .int f, .int l, .str x] Q := by
 obtain ⟨⟨dx, a1, a2, a3, a4, dl, es, hdl, rfl, hnd, o⟩, hM⟩ := h
 have e1 := o.get (.head _)
 have e2 := o.get (.tail _ (.head _))
 refine CalC.fn (es := [.ref da, .str k, .int f, .int l, .str x]) [Str.ofString "self", Str.ofString "name", Str.ofString "first", Str.ofString "last", Str.ofString "value"] (by ktr_unf) (by ktr_unf) (fun B T s vs kk i => ?_) (fun L hL => ?_)
 ·cases i with | cons a i =>
  cases i with | cons b i =>
  cases i with | cons c i =>
  cases i with | cons d i =>
  cases i with | cons e i =>
  cases i
  exact ⟨_, BindsTo.of_eq rfl, .cons a (.cons b (.cons c (.cons d (.cons e .nil))))⟩
 refine Ex.expr ?_
 refine Ev.methE (C := 488) (f := 471) me_RangeMap_put.1 me_RangeMap_put.2.1 me_RangeMap_put.2.2.1 me_RangeMap_put.2.2.2 ?_
 refine Ev.meth (x := da) (C := 537) (dx := dx) (f := 534) me_Data_map_of.1 me_Data_map_of.2.1 me_Data_map_of.2.2.1 me_Data_map_of.2.2.2 (EvP.to (EvP.loc rfl) ⟨rfl, e1, e2, rfl, EvPL.to (EvPL.cons (EvP.loc rfl) EvPL.nil) (CalC.cal (map_of_ok o (hdf dl hdl.df) hnd (by simpa [kms] using Nat.le_trans hz (by decide)) fun A e B H1 g1 g2 g3 g4 o1 => ?_))⟩)
 have hrx : (e.rx, X.dct (rmD e.M e.s e.v)) ∈ dbL da dx a1 a2 a3 a4 dl (A ++ e :: B) := by
  refine .tail _ (.tail _ (.tail _ (.tail _ ?_)))
  rw [List.flatMap_append, List.flatMap_cons]
  exact List.mem_append_right _ (.head _)
 have hr : (e.r, X.ins 488 e.rx) ∈ dbL da dx a1 a2 a3 a4 dl (A ++ e :: B) := by
  refine .tail _ (.tail _ (.tail _ (.tail _ ?_)))
  rw [List.flatMap_append, List.flatMap_cons]
  exact List.mem_append_right _ (.tail _ (.head _))
 refine ⟨e.r, e.rx, rmD e.M e.s e.v, rfl, o1.get hr, o1.get hrx, rfl, ?_⟩
 refine EvPL.to (EvPL.cons (EvP.loc rfl) (EvPL.cons (EvP.loc rfl) (EvPL.cons (EvP.loc rfl) EvPL.nil))) (CalC.cal (CalC.le (n := n + 4) (k := n + 2) ?_ (by one_sign))) 
 have hMe : e.M.Ok := by
  refine RM.put_new (k := k) (df := df) hM (e.k, e.M) ?_
  rw [← g3]; exact List.mem_map.mpr ⟨e, List.mem_append_right _ (.head _), rfl⟩
 have hp : (dbL da dx a1 a2 a3 a4 dl (A ++ e :: B)).Perm ((e.rx, X.dct (rmD e.M e.s e.v)) :: (((da, X.ins 537 dx) :: (dx, .dct (dtD a1 a2 a3 a4)) :: (a1, .dct dl) :: (a2, .dct (mapsE (A ++ e :: B))) :: A.flatMap Ent4.objs) ++ ((e.r, .ins 488 e.rx) :: (e.s, .lst (e.M.st.map .int)) :: (e.v, .lst (e.M.vs.map .str)) :: B.flatMap Ent4.objs))) := by
  unfold dbL
  rw [List.flatMap_append, List.flatMap_cons]
  exact List.perm_middle (l₁ := (da, X.ins 537 dx) :: (dx, .dct (dtD a1 a2 a3 a4)) :: (a1, .dct dl) :: (a2, .dct (mapsE (A ++ e :: B))) :: A.flatMap Ent4.objs)
 refine rm_put_ok (rx := e.rx) (s := e.s) (v := e.v) (M := e.M) (o1.perm hp) (List.mem_append_right _ (.head _)) (List.mem_append_right _ (.tail _ (.head _))) (List.mem_append_right _ (.tail _ (.tail _ (.head _)))) hMe h0 h1 h2 fun s' v' H2 o2 => Ex.nil (q H2 ⟨⟨dx, a1, a2, a3, a4, dl, A ++ { e with s := s', v := v', M := e.M.put f l x } :: B, hdl, ?_, ?_, ?_⟩, hok⟩)
 ·unfold mput
  rw [← g3]
  have ha : ∀ p ∈ kms A, p.1 ≠ k := fun p hp => by obtain ⟨e', he', rfl⟩ := List.mem_map.mp hp; exact g2 e' he'
  have := updF_at (k := k) (F := fun M => M.put f l x) (M := e.M) (B := kms B) ha
  unfold kms at this ⊢
  rw [List.map_append, List.map_append, List.map_cons, List.map_cons, g1]
  exact this.symm
 ·rw [mapsE_app] at g4 ⊢; exact g4
 ·have o3 := o2.weak (L' := (e.rx, X.dct (rmD (e.M.put f l x) s' v')) :: (s', .lst ((e.M.put f l x).st.map .int)) :: (v', .lst ((e.M.put f l x).vs.map .str)) :: (((da, X.ins 537 dx) :: (dx, .dct (dtD a1 a2 a3 a4)) :: (a1, .dct dl) :: (a2, .dct (mapsE (A ++ e :: B))) :: A.flatMap Ent4.objs) ++ ((e.r, .ins 488 e.rx) :: B.flatMap Ent4.objs)))
   (.cons_cons _ (.cons_cons _ (.cons_cons _ (List.Sublist.append (.refl _) (.cons_cons _ (.cons _ (.cons _ (.refl _))))))))
  refine o3.perm ?_
  have hm : mapsE (A ++ { e with s := s', v := v', M := e.M.put f l x } :: B) = mapsE (A ++ e :: B) := by rw [mapsE_app, mapsE_app]; rfl
  unfold dbL
  rw [hm, List.flatMap_append, List.flatMap_cons]
  refine (List.perm_middle (l₁ := (e.rx, X.dct (rmD (e.M.put f l x) s' v')) :: (s', X.lst ((e.M.put f l x).st.map .int)) :: (v', X.lst ((e.M.put f l x).vs.map .str)) :: ((da, X.ins 537 dx) :: (dx, .dct (dtD a1 a2 a3 a4)) :: (a1, .dct dl) :: (a2, .dct (mapsE (A ++ e :: B))) :: A.flatMap Ent4.objs))).trans ?_
  refine (List.Perm.swap _ _ _).trans ?_
  show List.Perm ([(e.rx, X.dct (rmD (e.M.put f l x) s' v')), (e.r, X.ins 488 e.rx), (s', X.lst ((e.M.put f l x).st.map .int)), (v', X.lst ((e.M.put f l x).vs.map .str))] ++ (((da, X.ins 537 dx) :: (dx, .dct (dtD a1 a2 a3 a4)) :: (a1, .dct dl) :: (a2, .dct (mapsE (A ++ e :: B))) :: A.flatMap Ent4.objs) ++ B.flatMap Ent4.objs)) _
  exact List.perm_append_comm_assoc _ ((da, X.ins 537 dx) :: (dx, .dct (dtD a1 a2 a3 a4)) :: (a1, .dct dl) :: (a2, .dct (mapsE (A ++ e :: B))) :: A.flatMap Ent4.objs) _
theorem lsW_datW (k d : Str) (c : Int) : ∀ es : List Ent4, datW (es.map fun e => (e.k, e.r, e.M)) k d c = lsW (kms es) k d c
 | [] => rfl
 | e :: es => by
  have ih := lsW_datW k d c es
  unfold datW lsW kms at *
  rw [List.map_cons, List.map_cons, List.lookup_cons, List.lookup_cons]
  cases k == e.k with
  | true => rfl
  | false => exact ih
theorem DB.dat {H0 H' : Hp} {da : Addr} {Ls : List (Str × RM)} (h : DB H0 H da Ls) (s : Sub H H') : DatOk (mkG w mg mb lo) (n + 3) H' da (lsW Ls (Str.ofString "lb") (Str.ofString "XX")) (lsW Ls (Str.ofString "gc") (Str.ofString "Cn")) (lsW Ls (Str.ofString "ea") (Str.ofString "N")) := by
 obtain ⟨⟨dx, a1, a2, a3, a4, dl, es, hdl, rfl, hnd, o⟩, hM⟩ := h
 have hD : DataAt H da (es.map fun e => (e.k, e.r, e.M)) := by
  refine ⟨⟨dx, a1, a2, a3, a4, dl, o.get (.head _), o.get (.tail _ (.head _)), o.get (.tail _ (.tail _ (.head _))), hdl.df, (o.get (.tail _ (.tail _ (.tail _ (.head _))))).trans ?_⟩, fun p hp => ?_⟩
  ·unfold mapsE mapsD; rw [List.map_map]; rfl
  ·obtain ⟨e, he, rfl⟩ := List.mem_map.mp hp
   have hm : ∀ q ∈ e.objs, H q.1 = some q.2 := fun q hq => o.has q (.tail _ (.tail _ (.tail _ (.tail _ (List.mem_flatMap.mpr ⟨e, he, hq⟩)))))
   exact ⟨hM _ (List.mem_map.mpr ⟨e, he, rfl⟩), e.rx, e.s, e.v, hm _ (.tail _ (.head _)), hm _ (.head _), hm _ (.tail _ (.tail _ (.head _))), hm _ (.tail _ (.tail _ (.tail _ (.head _))))⟩
 have := (hD.sub s).dat (w := w) (mg := mg) (mb := mb) (lo := lo) (n := n)
 simp only [funext fun c => lsW_datW (Str.ofString "lb") (Str.ofString "XX") c es, funext fun c => lsW_datW (Str.ofString "gc") (Str.ofString "Cn") c es, funext fun c => lsW_datW (Str.ofString "ea") (Str.ofString "N") c es] at this
 exact this
end
structure Op where
 k : Str
 d : Str
 c : Int
 v : Str
noncomputable def okAll (Ls : List (Str × RM)) : Bool := (Ls.all fun p => p.2.st.length == p.2.vs.length && (decide (p.2.st.length < 1000) && (!p.2.st.isEmpty && p.2.st.getD 0 0 == 0))) && decide (Ls.length ≤ 50)
theorem okAll_ok {Ls : List (Str × RM)} (h : okAll Ls = true) : (∀ p ∈ Ls, p.2.Ok) ∧ Ls.length ≤ 50 := by
 unfold okAll at h
 rw [Bool.and_eq_true, List.all_eq_true] at h
 refine ⟨fun p hp => ?_, of_decide_eq_true h.2⟩
 have := h.1 p hp
 simp only [Bool.and_eq_true, beq_iff_eq, Bool.not_eq_true', List.isEmpty_eq_false_iff, decide_eq_true_eq] at this
 exact ⟨this.1, this.2.1, this.2.2.1, this.2.2.2⟩
noncomputable def Op.do (o : Op) (Ls : List (Str × RM)) : List (Str × RM) := mput o.k o.d o.c o.c o.v Ls
noncomputable def dbK (ops : List Op) : Nat → List (Str × RM)
 | 0 => []
 | k + 1 => (ops.getD k ⟨⟨#[]⟩, ⟨#[]⟩, 0, ⟨#[]⟩⟩).do (dbK ops k)
noncomputable def runs : List Op → List (Str × RM) → Bool
 | [], Ls => okAll Ls
 | o :: os, Ls => okAll Ls && runs os (o.do Ls)
theorem runs_at (os : List Op) : ∀ (pre : List Op), runs os (dbK (pre ++ os) pre.length) = true → ∀ k, pre.length ≤ k → k ≤ (pre ++ os).length → okAll (dbK (pre ++ os) k) = true := by
 induction os with
 | nil =>
  intro pre h k h1 h2
  rw [List.append_nil] at h2 h ⊢
  have : k = pre.length := by one_sign
  subst this
  exact h
 | cons o os ih =>
  intro pre h k h1 h2
  unfold runs at h
  rw [Bool.and_eq_true] at h
  by_cases e : k = pre.length
  ·subst e; exact h.1
  ·have e1 : pre ++ o :: os = (pre ++ [o]) ++ os := by simp
   have e2 : dbK (pre ++ o :: os) (pre ++ [o]).length = o.do (dbK (pre ++ o :: os) pre.length) := by
    rw [List.length_append]
    show Op.do ((pre ++ o :: os).getD pre.length _) _ = _
    rw [List.getD_eq_getElem?_getD, List.getElem?_append_right (Nat.le_refl _)]; simp
   rw [e1]
   refine ih (pre ++ [o]) ?_ k (by simp; one_sign) (by rw [← e1]; exact h2)
   rw [← e1, e2]; exact h.2
section
variable {w : World} {mg mb : Str → Option Value} {lo : Lo} {n : Nat} {H : Hp} {lb gc ea : Int → Str}
theorem reasons_ok {x dx hw dh da t : Addr} {codes : List Int} {S N : Str} {kp : Bool} {Q : D → Hp → Prop} (hB : BrkAt H x dx da hw dh S N kp) (ht : H t = some (.lst (codes.map .int))) (hz : codes.length ≤ 100) (h1 : 1 ≤ codes.length)
  (hD : ∀ H', Sub H H' → DatOk (mkG w mg mb lo) (n + 3) H' da lb gc ea) (hS : is S "strict" = true)
  (hc : ∀ c ∈ codes, 0 ≤ c ∧ okV (lb c) = true)
  (q : ∀ a H', Own H H' [(a, .lst ((verL (mkV lb codes S N kp) gc ea (codes.length - 1)).map sndD))] → Q (.ref a) H') : CalC (mkG w mg mb lo) (n + 10) H (.ref 408) [.ref x, .ref t] Q := by
 refine CalC.fn (es := [.ref x, .ref t]) [Str.ofString "self", Str.ofString "text"] (by ktr_unf) (by ktr_unf) (fun B T s vs k i => BindsTo.two (fun a b => rfl) i) (fun L hL => ?_)
 refine Ex.ret (Ev.comp (cl := []) (by one_sign) ?_ ?hcl)
 case hcl => rfl
 refine Ev.locs (Ev.callG (by ktr_unf) (by ktr_unf) (EvPL.to (EvPL.cons (EvP.loc rfl) (EvPL.cons (EvP.attr (EvP.loc rfl) (gp_LineBreaks_data hB.x hB.dx rfl)) (EvPL.cons (EvP.attr (EvP.loc rfl) (gp_LineBreaks_how hB.x hB.dx rfl)) EvPL.nil))) ?_))
 refine CalC.cal (line_verdicts_ok ht hz h1 hD hB.hw hB.dh hS hc fun a L1 H1 o hL1 => ?_)
 have hlen := verL_len (mkV lb codes S N kp) gc ea (codes.length - 1)
 rw [mkV_len] at hlen
 refine ⟨_, _, _, _, Itr.lst (o.get (.head _)), rfl, hL1, by rw [hlen, sizeLine_eq]; one_sign, fun C hC hCL => ?_⟩
 refine Lc.inv (fun i m H' acc => Own H H' ((a, .lst (verL (mkV lb codes S N kp) gc ea (codes.length - 1))) :: L1) ∧ acc = ((verL (mkV lb codes S N kp) gc ea (codes.length - 1)).take i).map sndD) ?_ ?_ ⟨o, by simp⟩
 ·rintro i d m H' acc hi ⟨o', rfl⟩
  obtain ⟨x1, x2, rfl⟩ := verL_pair (List.mem_of_getElem? hi)
  refine ⟨o'.get (.head _), Asg.tup (AsgL.cons (Asg.name (AsgL.cons (Asg.name (AsgL.nil ?_)))))⟩
  refine ⟨fun _ => EvP.to (EvP.loc lset_self) ⟨o', ?_⟩, fun h => by cases h⟩
  rw [List.take_succ, hi, List.map_append]; rfl
 ·rintro m H' acc ⟨o', rfl⟩
  refine ⟨o'.get (.head _), fun b hb _ => q b _ ?_⟩
  rw [List.take_length]
  exact (o'.alloc hb).weak (by simp)
end
noncomputable def sumsL (ws : List Int) (i : Nat) : List D := (List.range (i + 1)).map fun k => .int (ws.take k).sum
noncomputable def endsL (hang : Nat → Bool) (i : Nat) : List D := (List.range (i + 1)).map fun k => .int (wE hang k : Int)
theorem range1_last {f : Nat → D} {i : Nat} : ((List.range (i + 1)).map f).getLast? = some (f i) := by rw [List.range_succ, List.map_append]; simp
theorem range1_at {f : Nat → D} {i k : Nat} (h : k ≤ i) : ((List.range (i + 1)).map f)[k]? = some (f k) := by
 rw [List.getElem?_map, List.getElem?_range (by one_sign)]; rfl
noncomputable def msD (s e : Addr) : List (D × D) := [(ss "sums", .ref s), (ss "ends", .ref e)]
structure MsAt (H : Hp) (x dx s e : Addr) (ws : List Int) (hang : Nat → Bool) : Prop where
 x : H x = some (.ins 367 dx)
 dx : H dx = some (.dct (msD s e))
 s : H s = some (.lst (sumsL ws ws.length))
 e : H e = some (.lst (endsL hang ws.length))
theorem MsAt.sub {H H' : Hp} {x dx s e : Addr} {ws : List Int} {hang : Nat → Bool} (h : MsAt H x dx s e ws hang) (S : Sub H H') : MsAt H' x dx s e ws hang := ⟨S _ _ h.x, S _ _ h.dx, S _ _ h.s, S _ _ h.e⟩
section
variable {w : World} {mg mb : Str → Option Value} {lo : Lo} {n : Nat} {H : Hp} {lb gc ea : Int → Str}
theorem LineMeasure_ok {tw th : Addr} {ws : List Int} {hg : List Bool} {Q : D → Hp → Prop} (h1 : H tw = some (.lst (ws.map .int))) (h2 : H th = some (.lst (hg.map .bool))) (hl : hg.length = ws.length) (hz : ws.length ≤ 100)
  (q : ∀ x dx s e H', Own H H' [(e, .lst (endsL (fun k => hg.getD k false) ws.length)), (s, .lst (sumsL ws ws.length)), (x, .ins 367 dx), (dx, .dct (msD s e))] → Q (.ref x) H') : CalC (mkG w mg mb lo) (n + 3) H (.ref 367) [.ref tw, .ref th] Q := by
 refine CalC.cls (fI := 357) (by ktr_unf) (by ktr_unf) (by ktr_unf) (fun x dx hx hdx hne => ?_)
 refine CalC.fn (es := [.ref x, .ref tw, .ref th]) [Str.ofString "self", Str.ofString "widths", Str.ofString "hangs"] (by ktr_unf) (by ktr_unf) (fun B T s vs k i => BindsTo.three (fun a b c => rfl) i) (fun L hL => ?_)
 have o0 : Own H ((H.set dx (.dct [])).set x (.ins 367 dx)) [(x, .ins 367 dx), (dx, .dct [])] := inst_own hx hdx hne
 revert o0 hL; generalize (H.set dx (.dct [])).set x (.ins 367 dx) = H0; intro hL o0
 refine Ex.asgA (Ev.lst (EvPL.to (EvPL.cons EvP.cint EvPL.nil) ⟨by decide, fun s hs _ => ?_⟩))
 have o1 := o0.alloc (x := .lst [.int 0]) hs
 refine (EvP.loc rfl).to (sa_LineMeasure_sums (o1.get (.tail _ (.head _))) (o1.get (.tail _ (.tail _ (.head _)))) (Nat.le_of_ble_eq_true rfl) ?_)
 have o2 := o1.upd (y := .dct (sput (Str.ofString "sums") (.ref s) [])) 2 rfl
 revert o2; generalize (H0.set s _).set dx _ = H2; intro o2
 clear o0 o1 hs
 refine Ex.asgA (Ev.lst (EvPL.to (EvPL.cons EvP.cint EvPL.nil) ⟨by decide, fun e he _ => ?_⟩))
 have o3 := o2.alloc (x := .lst [.int 0]) he
 refine (EvP.loc rfl).to (sa_LineMeasure_ends (o3.get (.tail _ (.tail _ (.head _)))) (o3.get (.tail _ (.tail _ (.tail _ (.head _))))) (Nat.le_of_ble_eq_true rfl) ?_)
 have o4 : Own H _ [(e, .lst (endsL (fun k => hg.getD k false) 0)), (s, .lst (sumsL ws 0)), (x, .ins 367 dx), (dx, .dct (msD s e))] := o3.upd (y := .dct (msD s e)) 3 rfl
 revert o4; generalize e4 : (H2.set e _).set dx (X.dct (msD s e)) = H4; intro o4
 replace e4 : (H2.set e (.lst [.int 0])).set dx (.dct (sput (Str.ofString "ends") (.ref e) (sput (Str.ofString "sums") (.ref s) []))) = H4 := e4
 rw [e4]; clear e4 o2 o3 he
 refine Ex.forEnum (by one_sign) (by ktr_unf) rfl (EvP.loc rfl) (o4.sub _ _ h1) rfl ?_
 refine Lp.inv (fun i m H' => m (Str.ofString "self") = some (.ref x) ∧ m (Str.ofString "hangs") = some (.ref th) ∧ Own H H' [(e, .lst (endsL (fun k => hg.getD k false) i)), (s, .lst (sumsL ws i)), (x, .ins 367 dx), (dx, .dct (msD s e))]) ?_ ?_ ⟨rfl, rfl, o4⟩
 ·clear o4 hL
  rintro i d m H' hi ⟨m1, m2, o⟩
  obtain ⟨_, hi2, rfl⟩ := enuL_inv hi
  obtain ⟨x0, hx0, rfl⟩ := map_inv hi2
  have hlt : i < ws.length := (List.getElem?_eq_some_iff.mp hx0).1
  refine ⟨o.sub _ _ h1, Asg.tup (AsgL.cons (Asg.name (AsgL.cons (Asg.name (AsgL.nil ?_)))))⟩
  refine Ex.any fun Q1 q1 => ?_
  refine Ex.append (EvP.attr (EvP.loc (by ktr_rel)) (gp_LineMeasure_sums (o.get (.tail _ (.tail _ (.head _)))) (o.get (.tail _ (.tail _ (.tail _ (.head _))))) rfl)) (o.get (.tail _ (.head _))) (EvP.to (EvP.bin (EvP.item (EvP.attr (EvP.loc (by ktr_rel)) (gp_LineMeasure_sums (o.get (.tail _ (.tail _ (.head _)))) (o.get (.tail _ (.tail _ (.tail _ (.head _))))) rfl)) (EvP.neg EvP.cint) (ItemP.last (o.get (.tail _ (.head _))) range1_last (by unfold sumsL; simp; one_sign))) (EvP.loc (by ktr_rel)) BinP.add) ?_)
  refine ⟨_, o.get (.tail _ (.head _)), by unfold sumsL; simp; rw [sizeLine_eq]; one_sign, ?_⟩
  have o1 := o.upd (y := .lst (sumsL ws (i + 1))) 1 rfl
  have es : sumsL ws i ++ [.int ((ws.take i).sum + x0)] = sumsL ws (i + 1) := by
   show _ = (List.range (i + 1 + 1)).map _
   rw [List.range_succ (n := i + 1), List.map_append]
   show sumsL ws i ++ _ = sumsL ws i ++ [D.int (ws.take (i + 1)).sum]
   rw [List.take_add_one, hx0]; simp
  rw [es]
  revert o1; generalize H'.set s _ = H1; intro o1
  have hb : (hg.map D.bool)[((i : Nat) : Int).toNat]? = some (.bool (hg.getD i false)) := by
   rw [Int.toNat_natCast, List.getElem?_map, List.getElem?_eq_getElem (by one_sign), List.getD_eq_getElem?_getD, List.getElem?_eq_getElem (by one_sign)]; rfl
  refine Ex.append (EvP.attr (EvP.loc (by ktr_rel)) (gp_LineMeasure_ends (o1.get (.tail _ (.tail _ (.head _)))) (o1.get (.tail _ (.tail _ (.tail _ (.head _))))) rfl)) (o1.get (.head _)) (EvP.to (EvP.ifxI (EvPB.plain (EvP.item (EvP.loc (by ktr_rel)) (EvP.loc (by ktr_rel)) (ItemP.lst (o1.sub _ _ h2) (by one_sign) hb (by rw [List.length_map]; one_sign))) TruP.bool) (fun _ => EvP.item (EvP.attr (EvP.loc (by ktr_rel)) (gp_LineMeasure_ends (o1.get (.tail _ (.tail _ (.head _)))) (o1.get (.tail _ (.tail _ (.tail _ (.head _))))) rfl)) (EvP.neg EvP.cint) (ItemP.last (o1.get (.head _)) range1_last (by unfold endsL; simp; one_sign))) (fun _ => EvP.bin (EvP.loc (by ktr_rel)) EvP.cint BinP.add)) ?_)
  refine ⟨_, o1.get (.head _), by unfold endsL; simp; rw [sizeLine_eq]; one_sign, ?_⟩
  have o2 := o1.upd (y := .lst (endsL (fun k => hg.getD k false) (i + 1))) 0 rfl
  have ee : endsL (fun k => hg.getD k false) i ++ [.int (bif hg.getD i false then (wE (fun k => hg.getD k false) i : Int) else (i : Int) + 1)] = endsL (fun k => hg.getD k false) (i + 1) := by
   show _ = (List.range (i + 1 + 1)).map _
   rw [List.range_succ (n := i + 1), List.map_append]
   show _ = _ ++ [D.int ((if hg.getD i false = true then wE (fun k => hg.getD k false) i else i + 1 : Nat) : Int)]
   cases hg.getD i false <;> simp [endsL]
  rw [ee]
  exact Ex.nil (q1 _ _ _ ⟨by ktr_rel, by ktr_rel, o2⟩)
 ·rintro m H' ⟨m1, m2, o⟩
  rw [enuL_len, List.length_map] at o
  exact ⟨o.sub _ _ h1, Ex.nil ⟨rfl, q x dx s e H' o⟩⟩
theorem CalP.max2 {G : Gd} {a b : Int} : CalP G n H (.builtin "max") [.int a, .int b] (.int (max a b)) := ⟨Cal.max2 ⟨rfl, rfl⟩⟩
theorem width_ok {x dx s e : Addr} {ws : List Int} {hang : Nat → Bool} (h : MsAt H x dx s e ws hang) (hz : ws.length ≤ 100) {a b : Nat} (ha : a ≤ ws.length) (hb : b ≤ ws.length) : CalP (mkG w mg mb lo) (n + 1) H (.ref 364) [.ref x, .int a, .int b] (.int (wid ws hang a b)) := by
 have hw := wE_le hang b
 have em : max (a : Int) (wE hang b : Int) = ((max a (wE hang b) : Nat) : Int) := by one_sign
 refine CalP.fn (es := [.ref x, .int a, .int b]) [Str.ofString "self", Str.ofString "start", Str.ofString "end"] (by ktr_unf) (by ktr_unf) (fun B T s vs k i => BindsTo.three (fun a b c => rfl) i) (fun L hL => ?_)
 have l1 : (sumsL ws ws.length).length < 2 ^ 62 := by unfold sumsL; simp; one_sign
 have l2 : (endsL hang ws.length).length < 2 ^ 62 := by unfold endsL; simp; one_sign
 refine ExP.asg (EvP.callB (id := "max") (by ktr_unf) rfl (EvPL.cons (EvP.loc rfl) (EvPL.cons (EvP.item (EvP.attr (EvP.loc rfl) (gp_LineMeasure_ends h.x h.dx rfl)) (EvP.loc rfl) (ItemP.lst h.e (by one_sign) (by rw [Int.toNat_natCast]; exact range1_at hb) l2)) EvPL.nil)) CalP.max2) ?_
 rw [em]
 exact ExP.ret (EvP.bin (EvP.item (EvP.attr (EvP.loc rfl) (gp_LineMeasure_sums h.x h.dx rfl)) (EvP.loc rfl) (ItemP.lst h.s (by one_sign) (by rw [Int.toNat_natCast]; exact range1_at (by one_sign)) l1)) (EvP.item (EvP.attr (EvP.loc rfl) (gp_LineMeasure_sums h.x h.dx rfl)) (EvP.loc rfl) (ItemP.lst h.s (by one_sign) (by rw [Int.toNat_natCast]; exact range1_at ha) l1)) BinP.sub)
noncomputable def bareB (x : Str) : Bool := inl x ["BK", "CR", "LF", "NL", "SP", "ZW"]
theorem measure_ok {x dx hw dh da t tw : Addr} {codes ws : List Int} {S N : Str} {kp : Bool} {Q : D → Hp → Prop} (hB : BrkAt H x dx da hw dh S N kp) (ht : H t = some (.lst (codes.map .int))) (htw : H tw = some (.lst (ws.map .int))) (hl : ws.length = codes.length) (hz : codes.length ≤ 100)
  (hD : ∀ H', Sub H H' → DatOk (mkG w mg mb lo) (n + 3) H' da lb gc ea) (hS : is S "strict" = true) (hc : ∀ c ∈ codes, 0 ≤ c ∧ okV (lb c) = true)
  (q : ∀ y dy s e H' L, Own H H' L → MsAt H' y dy s e ws (fun k => ((codes.map fun c => bareB (lb c)).getD k false)) → (∀ H'', (∀ p ∈ L, H'' p.1 = some p.2) → MsAt H'' y dy s e ws (fun k => ((codes.map fun c => bareB (lb c)).getD k false))) → Q (.ref y) H') : CalC (mkG w mg mb lo) (n + 6) H (.ref 413) [.ref x, .ref t, .ref tw] Q := by
 refine CalC.fnC [Str.ofString "self", Str.ofString "text", Str.ofString "widths"] (by ktr_unf) (by ktr_unf) (fun vs hv => ?_) (fun L hL => ?_) (by decide) ?hlk
 case hlk =>
  intro L p hp
  have e : p = (Str.ofString "self", L + 1) := by simpa [cellsFrom] using hp
  subst e; exact ⟨rfl, rfl⟩
 ·obtain ⟨a, b, c, rfl⟩ := len3 hv; rfl
 show Ex _ _ _ _ (Hp.set H (L + 1) (.cel (some (.ref x)))) _ _
 have o0 : Own H (Hp.set H (L + 1) (.cel (some (.ref x)))) [(L + 1, .cel (some (.ref x)))] := (Own.refl H).alloc (hL _ (Nat.le_succ _))
 revert o0
 generalize Hp.set H (L + 1) (X.cel (some (.ref x))) = H0
 intro o0
 have hB0 := hB.sub o0.sub
 refine Ex.fresh fun hL0 => ?_
 refine' Ex.asgC (cl := [(Str.ofString "self", L + 1)]) ?e1 ?e2 ?e3
 case e1 => one_sign
 case e3 => rfl
 case e2 =>
 refine EvP.to (EvP.loc rfl) ⟨_, _, _, _, Itr.lst (o0.sub _ _ ht), rfl, hL0, by rw [List.length_map, sizeLine_eq]; one_sign, fun C hC hCL => ?_⟩
 refine Lc.inv (fun i m H' acc => H' = H0 ∧ acc = ((codes.map fun c => bareB (lb c)).take i).map .bool) ?_ ?_ ⟨rfl, rfl⟩
 ·rintro i d m H' acc hi ⟨rfl, rfl⟩
  obtain ⟨c, hx, rfl⟩ := map_inv hi
  have hcc := hc c (List.mem_of_getElem? hx)
  have hk : okW (lb c) = true := by have := hcc.2; unfold okV at this; simp only [Bool.and_eq_true] at this; exact this.1.1.1
  refine ⟨o0.sub _ _ ht, Asg.name ⟨fun _ => ?_, fun h => (by cases h)⟩⟩
  refine' EvP.to (d := .bool (bareB (lb c))) ?g0 ⟨rfl, ?g1⟩
  case g1 => rw [List.take_add_one, List.map_append, List.getElem?_map, hx]; rfl
  case g0 =>
   refine' EvP.conv (EvP.cmp (EvP.callD (f := 140) (by ktr_unf) (EvP.glob (by ktr_unf) IsTop.ref) (EvPL.cons (EvP.loc lset_self) (EvPL.cons (EvP.attr (EvP.cell rfl (o0.get (.head _))) (gp_LineBreaks_data hB0.x hB0.dx rfl)) (EvPL.cons (EvP.attr (EvP.cell rfl (o0.get (.head _))) (gp_LineBreaks_how hB0.x hB0.dx rfl)) EvPL.nil))) ((line_class_ok (n := n) (hD _ o0.sub) c hcc.1 hB0.hw hB0.dh hS hk).le (by one_sign))) (EvP.glob (by ktr_unf) (IsTop.tup (by ktr_unf) rfl)) (CmpP.inT rfl (by one_sign))) ?g2
   case g2 => rfl
 ·rintro m H' acc ⟨rfl, rfl⟩
  refine ⟨o0.sub _ _ ht, fun a ha _ => Asg.name ?_⟩
  rw [List.length_map, List.take_of_length_le (by simp)]
  have o1 := o0.alloc (x := .lst ((codes.map fun c => bareB (lb c)).map .bool)) ha
  revert o1; generalize eH : H'.set a _ = H1; intro o1
  refine Ex.ret (Ev.callG (by ktr_unf) (by ktr_unf) (EvPL.to (EvPL.cons (EvP.loc rfl) (EvPL.cons (EvP.loc lset_self) EvPL.nil)) ?_))
  refine CalC.cal (CalC.le (LineMeasure_ok (n := n) (o1.sub _ _ htw) (o1.get (.head _)) (by simp [hl]) (by one_sign) fun y dy s e H2 o2 => ?_) (by one_sign))
  refine q y dy s e H2 _ (o1.trans o2) ⟨o2.get (.tail _ (.tail _ (.head _))), o2.get (.tail _ (.tail _ (.tail _ (.head _)))), o2.get (.tail _ (.head _)), o2.get (.head _)⟩ fun H'' h => ?_
  exact ⟨h _ (.tail _ (.tail _ (.head _))), h _ (.tail _ (.tail _ (.tail _ (.head _)))), h _ (.tail _ (.head _)), h _ (.head _)⟩
end
noncomputable def restI (most : Int) (ws : List Int) (hang : Nat → Bool) (a b : Int) : Int := most - wid ws hang a.toNat b.toNat
noncomputable def prD (q : Int × Int) : D := .tup [.int q.1, .int q.2]
noncomputable def natsD (l : List Nat) : List D := l.map fun (a : Nat) => .int (a : Int)
theorem natsD_at {l : List Nat} {k : Nat} (h : k < l.length) : (natsD l)[k]? = some (.int ((l.getD k 0 : Nat) : Int)) := by
 unfold natsD
 rw [List.getElem?_map, List.getD_eq_getElem?_getD, List.getElem?_eq_getElem h]; rfl
theorem natsD_len (l : List Nat) : (natsD l).length = l.length := by simp [natsD]
noncomputable def bestV : Option (Int × Nat) → D
 | none => .none
 | some b => .int b.1
noncomputable def origV (i : Nat) : Option (Int × Nat) → D
 | none => .int (i : Int)
 | some b => .int (b.2 : Int)
noncomputable def costsD (C : Nat → Nat → Option Int) (i : Nat) : List D := (tab C i).map fun p => .int p.1
noncomputable def origsD (C : Nat → Nat → Option Int) (i : Nat) : List D := (tab C i).map fun p => .int (p.2 : Int)
theorem costsD_at {C : Nat → Nat → Option Int} {j i : Nat} (h : j ≤ i) : (costsD C i)[j]? = some (.int (cost C j)) := by
 have := tab_get C h
 have l := tab_len C i
 rw [List.getD_eq_getElem?_getD, List.getElem?_eq_getElem (by one_sign)] at this
 unfold costsD
 rw [List.getElem?_map, List.getElem?_eq_getElem (by one_sign)]
 simp only [Option.getD_some] at this
 rw [this]; rfl
theorem origsD_at {C : Nat → Nat → Option Int} {j i : Nat} (h : j ≤ i) : (origsD C i)[j]? = some (.int (orig C j : Int)) := by
 have := tab_get C h
 have l := tab_len C i
 rw [List.getD_eq_getElem?_getD, List.getElem?_eq_getElem (by one_sign)] at this
 unfold origsD
 rw [List.getElem?_map, List.getElem?_eq_getElem (by one_sign)]
 simp only [Option.getD_some] at this
 rw [this]; rfl
theorem costsD_succ {C : Nat → Nat → Option Int} {i : Nat} (h : (C i (i + 1)).isSome = true) : costsD C i ++ [bestV (bestTo (fun j => C j (i + 1)) (cost C) (i + 1))] = costsD C (i + 1) ∧ origsD C i ++ [origV i (bestTo (fun j => C j (i + 1)) (cost C) (i + 1))] = origsD C (i + 1) := by
 have e := bestTo_congr (C := fun j => C j (i + 1)) (c := fun j => ((tab C i).getD j (0, 0)).1) (c' := cost C) (i + 1) fun j hj => by rw [tab_get C (by one_sign)]
 have et : tab C (i + 1) = tab C i ++ [(bestTo (fun j => C j (i + 1)) (cost C) (i + 1)).getD (0, 0)] := by rw [tab, e]
 unfold costsD origsD
 rw [et, List.map_append, List.map_append]
 rcases bestTo_spec (fun j => C j (i + 1)) (cost C) (i + 1) with ⟨_, b⟩ | ⟨o, x, h1, h2, h3, _⟩
 ·rw [b i (by one_sign)] at h; cases h
 ·rw [h3]; exact ⟨rfl, rfl⟩
theorem fnd_zero (o : Nat → Nat) : ∀ f, fnd o f 0 = []
 | 0 => rfl
 | _ + 1 => rfl
section
variable {w : World} {mg mb : Str → Option Value} {lo : Lo} {n : Nat} {H : Hp}
inductive InvC (H : Hp) (pt ms c o : Addr) (most : Int) (R : Nat → Nat → Int) (K i : Nat) (m : Loc) (H' : Hp) : Prop
 | mk (m1 : m (Str.ofString "part") = some (.ref pt)) (m2 : m (Str.ofString "measure") = some (.ref ms)) (m3 : m (Str.ofString "most") = some (.int most)) (m4 : m (Str.ofString "costs") = some (.ref c)) (m5 : m (Str.ofString "origins") = some (.ref o)) (o1 : Own H H' [(o, .lst (origsD (lc R K) i)), (c, .lst (costsD (lc R K) i))])
inductive InvD (H1 : Hp) (pt ms c o : Addr) (most : Int) (R : Nat → Nat → Int) (K i j : Nat) (m' : Loc) (H' : Hp) : Prop
 | mk (e : H' = H1) (k1 : m' (Str.ofString "part") = some (.ref pt)) (k2 : m' (Str.ofString "measure") = some (.ref ms)) (k3 : m' (Str.ofString "most") = some (.int most)) (k4 : m' (Str.ofString "costs") = some (.ref c)) (k5 : m' (Str.ofString "origins") = some (.ref o)) (k6 : m' (Str.ofString "k") = some (.int ((i + 1 : Nat) : Int)))
  (k7 : m' (Str.ofString "best") = some (bestV (bestTo (fun j => lc R K j (i + 1)) (cost (lc R K)) j))) (k8 : m' (Str.ofString "origin") = some (origV i (bestTo (fun j => lc R K j (i + 1)) (cost (lc R K)) j)))
inductive InvE (H : Hp) (pt o f c : Addr) (p : Nat → Int) (R : Nat → Nat → Int) (K k : Nat) (m : Loc) (H' : Hp) : Prop
 | mk (hk : k ≤ K) (m1 : m (Str.ofString "part") = some (.ref pt)) (m2 : m (Str.ofString "origins") = some (.ref o)) (m3 : m (Str.ofString "found") = some (.ref f)) (m4 : m (Str.ofString "k") = some (.int (k : Int))) (g : Nat) (dn : List (Nat × Nat)) (g1 : k ≤ g) (g2 : dn.length + k ≤ K) (g3 : dn ++ fnd (orig (lc R K)) g k = fnd (orig (lc R K)) K K) (o3 : Own H H' [(f, .lst ((mp2 p dn).map prD)), (o, .lst (origsD (lc R K) K)), (c, .lst (costsD (lc R K) K))])
theorem line_even_part_ok {pt ms dx s e : Addr} {part : List Nat} {ws : List Int} {hang : Nat → Bool} {most : Int} {Q : D → Hp → Prop} (hp : H pt = some (.lst (natsD part))) (hM : MsAt H ms dx s e ws hang) (hz : ws.length ≤ 100) (h1 : 1 ≤ part.length) (h2 : part.length ≤ 20) (hb : ∀ a ∈ part, a ≤ ws.length)
  (hmul : ∀ a b, IntMulOk (restI most ws hang a b) (restI most ws hang a b)) (q : ∀ a H', Own H H' [(a, .lst ((dpPart (restI most ws hang) part).map prD))] → Q (.ref a) H') : CalC (mkG w mg mb lo) (n + 3) H (.ref 383) [.ref pt, .ref ms, .int most] Q := by
 obtain ⟨K, hK⟩ : ∃ K, part.length = K + 1 := ⟨part.length - 1, by one_sign⟩
 have hpl := natsD_len part
 have hbd : ∀ {k : Nat}, k ≤ K → part.getD k 0 ≤ ws.length := fun {k} hk => by
  rw [List.getD_eq_getElem?_getD, List.getElem?_eq_getElem (by one_sign)]; exact hb _ (List.getElem_mem _)
 obtain ⟨R, hR⟩ : ∃ R : Nat → Nat → Int, R = fun j k => restI most ws hang (part.getD j 0 : Nat) (part.getD k 0 : Nat) := ⟨_, rfl⟩
 have hRe : ∀ j k, R j k = most - wid ws hang (part.getD j 0) (part.getD k 0) := fun j k => by rw [hR]; rfl
 have hRm : ∀ j k, IntMulOk (R j k) (R j k) := fun j k => by rw [hR]; exact hmul _ _
 have hC := lc_some R K
 have hdp : dpPart (restI most ws hang) part = mp2 (fun i => ((part.getD i 0 : Nat) : Int)) (fnd (orig (lc R K)) K K).reverse := by
  unfold dpPart; rw [hK, hR]; rfl
 rw [hdp] at q
 clear hdp hmul hR
 refine CalC.fn (es := [.ref pt, .ref ms, .int most]) [Str.ofString "part", Str.ofString "measure", Str.ofString "most"] (by ktr_unf) (by ktr_unf) (fun B T s vs k i => BindsTo.three (fun a b c => rfl) i) (fun L hL => ?_)
 refine Ex.asgS (names := [Str.ofString "costs", Str.ofString "origins"]) (Ev.tup (EvL.cons (Ev.lst (EvPL.to (EvPL.cons EvP.cint EvPL.nil) ⟨Nat.le_of_ble_eq_true rfl, fun c hc _ => ?_⟩))))
 refine EvL.cons (Ev.lst (EvPL.to (EvPL.cons EvP.cint EvPL.nil) ⟨Nat.le_of_ble_eq_true rfl, fun o ho _ => EvL.nil ⟨Nat.le_of_ble_eq_true rfl, _, rfl, rfl, rfl, rfl, rfl, rfl, ?_⟩⟩))
 have o0 : Own H ((H.set c (X.lst [D.int 0])).set o (X.lst [D.int 0])) [(o, .lst (origsD (lc R K) 0)), (c, .lst (costsD (lc R K) 0))] := ((Own.refl H).alloc (x := .lst [.int 0]) hc).alloc (x := .lst [.int 0]) ho
 revert o0; generalize (H.set c (X.lst [D.int 0])).set o (X.lst [D.int 0]) = H0; intro o0
 clear hc ho
 refine Ex.forRng2 (by one_sign) (by ktr_unf) rfl EvP.cint (EvP.callB (id := "len") (by ktr_unf) rfl (EvPL.cons (EvP.loc rfl) EvPL.nil) (CalP.lenL (o0.sub _ _ hp) (by one_sign))) (by one_sign) (by one_sign) (by one_sign) (by one_sign) rfl ?_
 rw [hpl, hK]
 refine Lp.inv (fun i m H' => InvC H pt ms c o most R K i m H') ?_ ?_ ⟨rfl, rfl, rfl, rfl, rfl, o0⟩
 ·clear o0 hL q
  rintro i d m H1 hi ⟨m1, m2, m3, m4, m5, o1⟩
  obtain ⟨rfl, hl⟩ := rngL_inv hi
  have hiK : i + 1 ≤ K := by one_sign
  have ek : (1 : Int) + i = ((i + 1 : Nat) : Int) := by one_sign
  have hM1 := hM.sub o1.sub
  have hp1 := o1.sub _ _ hp
  have hcl : (costsD (lc R K) i).length = i + 1 := by unfold costsD; rw [List.length_map, tab_len]
  have hol : (origsD (lc R K) i).length = i + 1 := by unfold origsD; rw [List.length_map, tab_len]
  refine ⟨trivial, Asg.name ?_⟩
  rw [ek]
  refine Ex.any fun Q1 q1 => ?_
  refine Ex.asgS (names := [Str.ofString "best", Str.ofString "origin"]) (EvP.to (EvP.tup (EvPL.cons EvP.cnone (EvPL.cons (EvP.bin (EvP.loc lset_self) EvP.cint BinP.sub) EvPL.nil))) ⟨_, rfl, rfl, rfl, rfl, rfl, rfl, ?_⟩)
  refine Ex.forRng1 (by one_sign) (by ktr_unf) rfl (EvP.loc (by ktr_rel)) (by one_sign) (by one_sign) rfl ?_
  refine Lp.inv (fun j m' H' => InvD H1 pt ms c o most R K i j m' H') ?_ ?_
   ⟨rfl, by ktr_rel, by ktr_rel, by ktr_rel, by ktr_rel, by ktr_rel, by ktr_rel, by ktr_rel, ?_⟩
  ·rintro j d m' H' hj ⟨rfl, k1, k2, k3, k4, k5, k6, k7, k8⟩
   obtain ⟨rfl, hlj⟩ := rngL_inv hj
   have hji : j ≤ i := by one_sign
   rw [Int.zero_add]
   refine ⟨trivial, Asg.name ?_⟩
   refine Ex.any fun Q2 q2 => ?_
   have eR := hRe j (i + 1)
   refine Ex.asg (EvP.to (EvP.bin (EvP.loc (by ktr_rel)) (EvP.meth (C := 367) hM1.x hM1.dx rfl me_LineMeasure_width.1 me_LineMeasure_width.2.1 me_LineMeasure_width.2.2.1 me_LineMeasure_width.2.2.2 (EvP.loc (by ktr_rel)) (EvPL.cons (EvP.item (EvP.loc (by ktr_rel)) (EvP.loc (by ktr_rel)) (ItemP.lst hp1 (by one_sign) (by rw [Int.toNat_natCast]; exact natsD_at (by one_sign)) (by one_sign))) (EvPL.cons (EvP.item (EvP.loc (by ktr_rel)) (EvP.loc (by ktr_rel)) (ItemP.lst hp1 (by one_sign) (by rw [Int.toNat_natCast]; exact natsD_at (by one_sign)) (by one_sign))) EvPL.nil)) ((width_ok (n := n) hM1 hz (hbd (by one_sign)) (hbd (by one_sign))).le (by one_sign))) BinP.sub) (Asg.name ?_))
   rw [← eR]
   have bs : bestTo (fun j => lc R K j (i + 1)) (cost (lc R K)) (j + 1) = match lc R K j (i + 1) with
    | none => bestTo (fun j => lc R K j (i + 1)) (cost (lc R K)) j
    | some x => match bestTo (fun j => lc R K j (i + 1)) (cost (lc R K)) j with
     | none => some (cost (lc R K) j + x, j)
     | some b => if cost (lc R K) j + x < b.1 then some (cost (lc R K) j + x, j) else some b := rfl
   refine Ex.iteP (EvPB.and (EvPB.cmp (EvP.loc lset_self) EvP.cint CmpP.lt) (fun _ => EvPB.and1 (EvPB.cmp (EvP.loc (by ktr_rel)) (EvP.bin (EvP.loc (by ktr_rel)) EvP.cint BinP.sub) CmpP.lt))) (fun hx => ?_) (fun hx => Ex.nil ?_)
   ·have hn : lc R K j (i + 1) = none := by
     simp only [Bool.and_eq_true, decide_eq_true_eq] at hx
     unfold lc; exact if_pos ⟨hx.1, by one_sign⟩
    rw [hn] at bs
    have bs' : bestTo (fun j => lc R K j (i + 1)) (cost (lc R K)) (j + 1) = bestTo (fun j => lc R K j (i + 1)) (cost (lc R K)) j := bs
    refine Ex.cont (q2 _ _ _ ⟨rfl, by ktr_rel, by ktr_rel, by ktr_rel, by ktr_rel, by ktr_rel, by ktr_rel, ?_, ?_⟩)
    ·rw [bs']; ktr_rel
    ·rw [bs']; ktr_rel
   ·have hs : lc R K j (i + 1) = some (if R j (i + 1) < 0 ∨ i + 1 = K then 0 else R j (i + 1) * R j (i + 1)) := by
     simp only [Bool.and_eq_false_iff, decide_eq_false_iff_not] at hx
     unfold lc; exact if_neg (by one_sign)
    have eb : (bif (decide (R j (i + 1) < 0) || ((i + 1 : Nat) : Int) == ((natsD part).length : Int) - 1) then 0 else R j (i + 1) * R j (i + 1)) = if R j (i + 1) < 0 ∨ i + 1 = K then 0 else R j (i + 1) * R j (i + 1) := by
     rw [hpl, hK, ← Bool.cond_decide]
     congr 1
     rw [Bool.eq_iff_iff, Bool.or_eq_true, decide_eq_true_iff, decide_eq_true_iff, beq_iff_eq]; one_sign
    refine' Ex.asg (EvP.to (EvP.bin (EvP.item (EvP.loc (by ktr_rel)) (EvP.loc (by ktr_rel)) (ItemP.lst (o1.get (.tail _ (.head _))) (by one_sign) (by rw [Int.toNat_natCast]; exact costsD_at hji) (by one_sign))) (EvP.ifxI (EvPB.or (EvPB.cmp (EvP.loc (by ktr_rel)) EvP.cint CmpP.lt) (fun _ => EvPB.or1 (EvPB.cmp (EvP.loc (by ktr_rel)) (EvP.bin (EvP.callB (id := "len") (by ktr_unf) rfl (EvPL.cons (EvP.loc (by ktr_rel)) EvPL.nil) (CalP.lenL hp1 (by one_sign))) EvP.cint BinP.sub) CmpP.eq))) (fun _ => EvP.cint) (fun _ => EvP.bin (EvP.loc (by ktr_rel)) (EvP.loc (by ktr_rel)) (BinP.mul (hRm j (i + 1))))) BinP.add) (Asg.name ?_))
    rw [show (deq (D.int ((i + 1 : Nat) : Int)) (D.int (((natsD part).length : Int) - 1))) = (((i + 1 : Nat) : Int) == ((natsD part).length : Int) - 1) from rfl, eb]
    rw [hs] at bs
    simp only at bs
    revert bs
    generalize (if R j (i + 1) < 0 ∨ i + 1 = K then 0 else R j (i + 1) * R j (i + 1)) = x
    intro bs
    cases qb : bestTo (fun j => lc R K j (i + 1)) (cost (lc R K)) j with
    | none =>
     rw [qb] at bs k7 k8
     have k7 : m' (Str.ofString "best") = some .none := k7
     refine Ex.iteP (x := true) (EvPB.conv (EvPB.or (EvPB.cmp (EvP.loc (by ktr_rel)) EvP.cnone CmpP.is) (b := false) (fun h => by cases h)) rfl) (fun _ => ?_) (fun h => by cases h)
     refine Ex.asgS (names := [Str.ofString "best", Str.ofString "origin"]) (EvP.to (EvP.tup (EvPL.cons (EvP.loc (by ktr_rel)) (EvPL.cons (EvP.loc (by ktr_rel)) EvPL.nil))) ⟨_, rfl, rfl, rfl, rfl, rfl, rfl, Ex.nil (Ex.nil (q2 _ _ _ ⟨rfl, by ktr_rel, by ktr_rel, by ktr_rel, by ktr_rel, by ktr_rel, by ktr_rel, ?_, ?_⟩))⟩)
     ·rw [bs]; ktr_rel
     ·rw [bs]; ktr_rel
    | some b =>
     rw [qb] at bs k7 k8
     simp only at bs
     have k7 : m' (Str.ofString "best") = some (.int b.1) := k7
     refine Ex.iteP (EvPB.or (EvPB.cmp (EvP.loc (by ktr_rel)) EvP.cnone CmpP.is) (fun h => EvPB.or1 (EvPB.cmp (EvP.loc (by ktr_rel)) (EvP.loc (by ktr_rel)) CmpP.lt))) (fun hx => ?_) (fun hx => Ex.nil (Ex.nil (q2 _ _ _ ⟨rfl, by ktr_rel, by ktr_rel, by ktr_rel, by ktr_rel, by ktr_rel, by ktr_rel, ?_, ?_⟩)))
     ·have hlt := of_decide_eq_true (show decide (cost (lc R K) j + x < b.1) = true from hx)
      rw [if_pos hlt] at bs
      refine Ex.asgS (names := [Str.ofString "best", Str.ofString "origin"]) (EvP.to (EvP.tup (EvPL.cons (EvP.loc (by ktr_rel)) (EvPL.cons (EvP.loc (by ktr_rel)) EvPL.nil))) ⟨_, rfl, rfl, rfl, rfl, rfl, rfl, Ex.nil (Ex.nil (q2 _ _ _ ⟨rfl, by ktr_rel, by ktr_rel, by ktr_rel, by ktr_rel, by ktr_rel, by ktr_rel, ?_, ?_⟩))⟩)
      ·rw [bs]; ktr_rel
      ·rw [bs]; ktr_rel
     ·have hlt := of_decide_eq_false (show decide (cost (lc R K) j + x < b.1) = false from hx)
      rw [if_neg hlt] at bs
      rw [bs]; ktr_rel
     ·have hlt := of_decide_eq_false (show decide (cost (lc R K) j + x < b.1) = false from hx)
      rw [if_neg hlt] at bs
      rw [bs]; ktr_rel
  ·rintro m' H' ⟨rfl, k1, k2, k3, k4, k5, k6, k7, k8⟩
   have ei : (rngL 0 ((i + 1 : Nat) : Int)).length = i + 1 := by rw [rngL_len]; one_sign
   rw [ei] at k7 k8
   obtain ⟨s1, s2⟩ := costsD_succ (hC i)
   refine ⟨trivial, ?_⟩
   refine Ex.append (EvP.loc k4) (o1.get (.tail _ (.head _))) (EvP.to (EvP.loc k7) ⟨_, o1.get (.tail _ (.head _)), by rw [hcl, sizeLine_eq]; one_sign, ?_⟩)
   rw [s1]
   have o2 := o1.upd (y := .lst (costsD (lc R K) (i + 1))) 1 rfl
   revert o2; generalize H'.set c _ = H2; intro o2
   refine Ex.append (EvP.loc k5) (o2.get (.head _)) (EvP.to (EvP.loc k8) ⟨_, o2.get (.head _), by rw [hol, sizeLine_eq]; one_sign, ?_⟩)
   rw [s2]
   exact Ex.nil (q1 _ _ _ ⟨k1, k2, k3, k4, k5, o2.upd (y := .lst (origsD (lc R K) (i + 1))) 0 rfl⟩)
  ·show lset _ _ _ _ = _
   rw [show (((i + 1 : Nat) : Int) - 1) = (i : Int) by one_sign]
   ktr_rel
 ·clear o0
  rintro m H1 ⟨m1, m2, m3, m4, m5, o1⟩
  have ei : (rngL 1 ((K + 1 : Nat) : Int)).length = K := by rw [rngL_len]; one_sign
  rw [ei] at o1
  have hol : (origsD (lc R K) K).length = K + 1 := by unfold origsD; rw [List.length_map, tab_len]
  have hp1 := o1.sub _ _ hp
  refine ⟨trivial, ?_⟩
  refine Ex.asgS (names := [Str.ofString "found", Str.ofString "k"]) (Ev.tup (EvL.cons (Ev.lst (EvL.nil ⟨Nat.le_of_ble_eq_true rfl, fun f hf _ => ?_⟩))))
  refine EvPL.to (EvPL.cons (EvP.bin (EvP.callB (id := "len") (by ktr_unf) rfl (EvPL.cons (EvP.loc (by ktr_rel)) EvPL.nil) (CalP.lenL (Hp.keep hf hp1) (by one_sign))) EvP.cint BinP.sub) EvPL.nil) ⟨Nat.le_of_ble_eq_true rfl, _, rfl, rfl, rfl, rfl, rfl, rfl, ?_⟩
  have o2 := o1.alloc (x := .lst []) hf
  revert o2; generalize H1.set f _ = H2; intro o2
  rw [hpl, hK, show (((K + 1 : Nat) : Int) - 1) = (K : Int) by one_sign]
  obtain ⟨p, hpp⟩ : ∃ p : Nat → Int, p = fun i => ((part.getD i 0 : Nat) : Int) := ⟨_, rfl⟩
  rw [← hpp] at q
  refine Ex.while' (K + 1) (Whl.inv (fun k m H' => InvE H pt o f c p R K k m H') ?_ K
   ⟨Nat.le_refl _, by ktr_rel, by ktr_rel, by ktr_rel, by ktr_rel, K, [], Nat.le_refl _, by simp, rfl, o2⟩)
  clear o1 o2 hf m1 m2 m3 m4 m5
  rintro k m H' ⟨hk, m1, m2, m3, m4, g, dn, g1, g2, g3, o3⟩
  refine (EvPB.cmp (EvP.loc m4) EvP.cint CmpP.gt).to ⟨fun hx => ?_, fun hx => ?_⟩
  ·have hk0 : 0 < k := by have := of_decide_eq_true hx; one_sign
   obtain ⟨k, rfl⟩ : ∃ k', k = k' + 1 := ⟨k - 1, by one_sign⟩
   obtain ⟨g, rfl⟩ : ∃ g', g = g' + 1 := ⟨g - 1, by one_sign⟩
   obtain ⟨_, ol, _⟩ := tab_spec (hC k)
   refine Ex.any fun Q3 q3 => ?_
   have hp3 := o3.sub _ _ hp
   have go := fun {n : Nat} => ItemP.lst (G := mkG w mg mb lo) (n := n) (o3.get (.tail _ (.head _))) (k := ((k + 1 : Nat) : Int)) (by one_sign) (by rw [Int.toNat_natCast]; exact origsD_at hk) (by one_sign)
   refine Ex.append (EvP.loc m3) (o3.get (.head _)) (EvP.to (EvP.tup (EvPL.cons (EvP.item (EvP.loc m1) (EvP.item (EvP.loc m2) (EvP.loc m4) go) (ItemP.lst hp3 (by one_sign) (by rw [Int.toNat_natCast]; exact natsD_at (by one_sign)) (by one_sign))) (EvPL.cons (EvP.item (EvP.loc m1) (EvP.loc m4) (ItemP.lst hp3 (by one_sign) (by rw [Int.toNat_natCast]; exact natsD_at (by one_sign)) (by one_sign))) EvPL.nil))) ⟨_, o3.get (.head _), by unfold mp2; simp; rw [sizeLine_eq]; one_sign, ?_⟩)
   have o4 := o3.upd (y := .lst ((mp2 p (dn ++ [(orig (lc R K) (k + 1), k + 1)])).map prD)) 0 rfl
   have el : (mp2 p dn).map prD ++ [.tup [.int ((part.getD (orig (lc R K) (k + 1)) 0 : Nat) : Int), .int ((part.getD (k + 1) 0 : Nat) : Int)]] = (mp2 p (dn ++ [(orig (lc R K) (k + 1), k + 1)])).map prD := by
    unfold mp2; rw [List.map_append, List.map_append, hpp]; rfl
   rw [el]
   revert o4; generalize H'.set f _ = H4; intro o4
   refine Ex.asg (EvP.to (EvP.item (EvP.loc m2) (EvP.loc m4) (ItemP.lst (o4.get (.tail _ (.head _))) (by one_sign) (by rw [Int.toNat_natCast]; exact origsD_at hk) (by one_sign))) (Asg.name (Ex.nil ?_)))
   refine q3 _ _ _ ⟨orig (lc R K) (k + 1), ol, by one_sign, by ktr_rel, by ktr_rel, by ktr_rel, by ktr_rel, g, dn ++ [(orig (lc R K) (k + 1), k + 1)], by one_sign, by simp; one_sign, ?_, o4⟩
   rw [← g3, List.append_assoc]; rfl
  ·have hk0 : k = 0 := by have := of_decide_eq_false hx; one_sign
   subst hk0
   rw [fnd_zero, List.append_nil] at g3
   subst g3
   refine Ex.ret (Ev.slc (EvP.to (EvP.loc m3) ⟨f, _, _, _, _, rfl, LstAt.own (o3.get (.head _)), .no, .no, .yes (EvP.neg EvP.cint), by simp, by unfold mp2; simp; rw [sizeLine_eq]; one_sign, fun a ha => q a _ ?_⟩))
   have o5 := (o3.alloc (x := .lst (pickL ((mp2 p (fnd (orig (lc R K)) K K)).map prD) none none (some (-1)))) ha).weak (L' := [(a, .lst (pickL ((mp2 p (fnd (orig (lc R K)) K K)).map prD) none none (some (-1))))]) (by simp)
   have er : pickL ((mp2 p (fnd (orig (lc R K)) K K)).map prD) none none (some (-1)) = (mp2 p (fnd (orig (lc R K)) K K).reverse).map prD := by
    rw [pickL_rev]; unfold mp2; simp
   rw [er] at o5 ⊢
   exact o5
end
theorem fnd_len (o : Nat → Nat) : ∀ f k, (fnd o f k).length ≤ f
 | 0, k => Nat.le_refl _
 | f + 1, k => by
  unfold fnd
  split
  ·exact Nat.zero_le _
  ·have := fnd_len o f (o k); simp; one_sign
theorem dpPart_len (rest : Int → Int → Int) (part : List Nat) : (dpPart rest part).length ≤ part.length - 1 := by
 unfold dpPart mp2
 rw [List.length_map, List.length_reverse]; exact fnd_len _ _ _
structure StOk (N i : Nat) (s : List (Int × Int) × List Nat) : Prop where
 len : s.1.length + s.2.length ≤ i + 1
 ne : 1 ≤ s.2.length
 le : ∀ a ∈ s.2, a ≤ N
theorem StOk.step {rest : Int → Int → Int} {mu : Nat → Bool} {N i c : Nat} {s : List (Int × Int) × List Nat} (h : StOk N i s) (hc : c ≤ N) : StOk N (i + 1) (stE rest mu s c) := by
 have h1 := h.len
 have h2 := h.ne
 have hd := dpPart_len rest (s.2 ++ [c])
 rw [List.length_append] at hd
 unfold stE
 split
 ·refine ⟨?_, Nat.le_refl _, fun a ha => ?_⟩
  ·simp only [List.length_append, List.length_cons, List.length_nil] at hd ⊢; one_sign
  ·rw [List.mem_singleton.mp ha]; exact hc
 ·refine ⟨?_, ?_, fun a ha => ?_⟩
  ·simp only [List.length_append, List.length_cons, List.length_nil]; one_sign
  ·simp only [List.length_append, List.length_cons, List.length_nil]; one_sign
  ·rcases List.mem_append.mp ha with ha | ha
   ·exact h.le a ha
   ·rw [List.mem_singleton.mp ha]; exact hc
theorem places_le {N c : Nat} {f : Nat → Bool} (h : c ∈ places N f) : 1 ≤ c ∧ c ≤ N ∧ f c = true := by
 unfold places at h
 rw [List.mem_filter, List.mem_map] at h
 obtain ⟨⟨i, hi, rfl⟩, h2⟩ := h
 have := List.mem_range.mp hi
 exact ⟨by one_sign, by one_sign, h2⟩
theorem places_len (N : Nat) (f : Nat → Bool) : (places N f).length ≤ N := by
 unfold places
 refine Nat.le_trans (List.length_filter_le _ _) ?_
 simp
noncomputable def isMu (W : List Str) (k : Nat) : Bool := is (W.getD k ⟨#[]⟩) "must"
noncomputable def isCut (W : List Str) (k : Nat) : Bool := !is (W.getD k ⟨#[]⟩) "no"
theorem strs_at {W : List Str} {k : Nat} (h : k < W.length) : (W.map D.str)[k]? = some (.str (W.getD k ⟨#[]⟩)) := by
 rw [List.getElem?_map, List.getD_eq_getElem?_getD, List.getElem?_eq_getElem h]; rfl
section
variable {w : World} {mg mb : Str → Option Value} {lo : Lo} {n : Nat} {H : Hp} {lb gc ea : Int → Str}
theorem line_even_ok {tw ms dx s e : Addr} {W : List Str} {ws : List Int} {hang : Nat → Bool} {most : Int} {Q : D → Hp → Prop} (hw : H tw = some (.lst (W.map .str))) (hM : MsAt H ms dx s e ws hang) (hl : W.length = ws.length + 1) (hz : ws.length ≤ 15)
  (hmul : ∀ a b, IntMulOk (restI most ws hang a b) (restI most ws hang a b)) (q : ∀ a H', Own H H' [(a, .lst (((places ws.length (isCut W)).foldl (stE (restI most ws hang) (isMu W)) ([], [0])).1.map prD))] → Q (.ref a) H') : CalC (mkG w mg mb lo) (n + 4) H (.ref 376) [.ref tw, .ref ms, .int most] Q := by
 refine CalC.fnC [Str.ofString "words", Str.ofString "measure", Str.ofString "most"] (by ktr_unf) (by ktr_unf) (fun vs hv => ?_) (fun L hL => ?_) (by decide) ?hlk
 case hlk =>
  intro L p hp
  have e : p = (Str.ofString "words", L + 1) := by simpa [cellsFrom] using hp
  subst e; exact ⟨rfl, rfl⟩
 ·obtain ⟨a, b, c, rfl⟩ := len3 hv; rfl
 show Ex _ _ _ _ (Hp.set H (L + 1) (.cel (some (.ref tw)))) _ _
 have o0 : Own H (Hp.set H (L + 1) (.cel (some (.ref tw)))) [(L + 1, .cel (some (.ref tw)))] := (Own.refl H).alloc (hL _ (Nat.le_succ _))
 revert o0
 generalize Hp.set H (L + 1) (X.cel (some (.ref tw))) = H0
 intro o0
 have lw : (W.map D.str).length = ws.length + 1 := by rw [List.length_map, hl]
 refine Ex.asgS (names := [Str.ofString "found", Str.ofString "start"]) (Ev.tup (EvL.cons (Ev.lst (EvL.nil ⟨Nat.le_of_ble_eq_true rfl, fun f hf _ => ?_⟩))))
 refine EvPL.to (EvPL.cons EvP.cint EvPL.nil) ⟨Nat.le_of_ble_eq_true rfl, _, rfl, rfl, rfl, rfl, rfl, rfl, ?_⟩
 have o1 := o0.alloc (x := .lst []) hf
 revert o1; generalize H0.set f _ = H1; intro o1
 refine Ex.fresh fun hL1 => ?_
 refine' Ex.asgC (cl := [(Str.ofString "words", L + 1)]) ?e1 ?e2 ?e3
 case e1 => one_sign
 case e3 => rfl
 case e2 =>
 have hw1 := o1.sub _ _ hw
 refine Ev.callTy (by ktr_unf) rfl (EvPL.to (EvPL.cons EvP.cint (EvPL.cons (EvP.callB (id := "len") (by ktr_unf) rfl (EvPL.cons (EvP.cell rfl (o1.get (.tail _ (.head _)))) EvPL.nil) (CalP.lenL hw1 (by one_sign))) EvPL.nil)) (Cal.rng2 ?_))
 rw [lw]
 refine ⟨isNm, H1, rngL 1 ((ws.length + 1 : Nat) : Int), _, Itr.rng (by one_sign) (by one_sign) (by one_sign) (by one_sign), rfl, hL1, by rw [rngL_len, sizeLine_eq]; one_sign, fun C hC hCL => ?_⟩
 refine Lc.inv (fun i m H' acc => H' = H1 ∧ acc = natsD (places i (isCut W))) ?_ ?_ ⟨rfl, rfl⟩
 ·rintro i d m H' acc hi ⟨rfl, rfl⟩
  obtain ⟨rfl, hli⟩ := rngL_inv hi
  have ek : (1 : Int) + i = ((i + 1 : Nat) : Int) := by one_sign
  rw [ek]
  refine ⟨trivial, Asg.name ?_⟩
  refine EvPB.to (b := isCut W (i + 1)) (EvPB.conv (EvPB.cmp (EvP.item (EvP.cell rfl (o1.get (.tail _ (.head _)))) (EvP.loc lset_self) (ItemP.lst hw1 (by one_sign) (by rw [Int.toNat_natCast]; exact strs_at (by one_sign)) (by one_sign))) EvP.cstr CmpP.ne) rfl) ⟨fun hb => EvP.to (EvP.loc lset_self) ⟨rfl, ?_⟩, fun hb => ⟨rfl, ?_⟩⟩
  ·rw [places_succ, if_pos hb]; unfold natsD; rw [List.map_append]; rfl
  ·rw [places_succ, if_neg (by rw [hb]; decide), List.append_nil]
 ·rintro m H' acc ⟨rfl, rfl⟩
  refine ⟨trivial, fun a ha _ => Asg.name ?_⟩
  have ei : (rngL 1 ((ws.length + 1 : Nat) : Int)).length = ws.length := by rw [rngL_len]; one_sign
  rw [ei]
  have o2 := o1.alloc (x := .lst (natsD (places ws.length (isCut W)))) ha
  revert o2; generalize H'.set a _ = H2; intro o2
  clear o1 o0 hw1 hL1 hC hCL ha hf
  refine Ex.asg (Ev.lst (EvPL.to (EvPL.cons (EvP.loc (by ktr_rel)) EvPL.nil) ⟨Nat.le_of_ble_eq_true rfl, fun p hp _ => Asg.name ?_⟩))
  have o3 := o2.alloc (x := .lst (natsD [0])) hp
  show Ex _ _ _ _ (H2.set p (.lst (natsD [0]))) _ _
  revert o3; generalize H2.set p _ = H3; intro o3
  clear o2 hp
  have hpl := places_len ws.length (isCut W)
  refine Ex.forLst (by one_sign) (EvP.loc (by ktr_rel)) (o3.get (.tail _ (.head _))) rfl ?_
  refine Lp.inv (fun i m H' => m (Str.ofString "measure") = some (.ref ms) ∧ m (Str.ofString "most") = some (.int most) ∧ m (Str.ofString "found") = some (.ref f) ∧ ∃ p E, m (Str.ofString "part") = some (.ref p) ∧ E = ((places ws.length (isCut W)).take i).foldl (stE (restI most ws hang) (isMu W)) ([], [0]) ∧ StOk ws.length i E ∧
   Own H H' [(p, .lst (natsD E.2)), (a, .lst (natsD (places ws.length (isCut W)))), (f, .lst (E.1.map prD)), (L + 1, .cel (some (.ref tw)))]) ?_ ?_
   ⟨rfl, rfl, rfl, p, _, rfl, rfl, ⟨Nat.le_refl _, Nat.le_refl _, fun a ha => by rw [List.mem_singleton.mp ha]; one_sign⟩, o3⟩
  ·clear o3
   rintro i d m H4 hi ⟨m1, m2, m3, p, E, m4, rfl, hE, o4⟩
   have hi' := hi
   unfold natsD at hi'
   obtain ⟨c, hc, rfl⟩ := map_inv hi'
   obtain ⟨c1, c2, c3⟩ := places_le (List.mem_of_getElem? hc)
   have hil : i < (places ws.length (isCut W)).length := (List.getElem?_eq_some_iff.mp hc).1
   have et : ((places ws.length (isCut W)).take (i + 1)).foldl (stE (restI most ws hang) (isMu W)) ([], [0]) = stE (restI most ws hang) (isMu W) (((places ws.length (isCut W)).take i).foldl (stE (restI most ws hang) (isMu W)) ([], [0])) c := by
    rw [List.take_add_one, hc, List.foldl_append]; rfl
   have hE' := hE.step (rest := restI most ws hang) (mu := isMu W) c2
   have e1 := hE.len
   have e2 := hE.le
   refine ⟨o4.get (.tail _ (.head _)), Asg.name ?_⟩
   revert et hE' e1 e2 o4
   generalize ((places ws.length (isCut W)).take i).foldl (stE (restI most ws hang) (isMu W)) ([], [0]) = E
   intro o4 et hE' e1 e2
   have hpn := natsD_len E.2
   refine Ex.any fun Q1 q1 => ?_
   refine Ex.append (EvP.loc (by ktr_rel)) (o4.get (.head _)) (EvP.to (EvP.loc lset_self) ⟨_, o4.get (.head _), by rw [hpn, sizeLine_eq]; one_sign, ?_⟩)
   have o5 := o4.upd (y := .lst (natsD (E.2 ++ [c]))) 0 rfl
   have en : natsD E.2 ++ [.int (c : Int)] = natsD (E.2 ++ [c]) := by unfold natsD; rw [List.map_append]; rfl
   rw [en]
   revert o5; generalize H4.set p _ = H5; intro o5
   have hw5 := o5.sub _ _ hw
   refine Ex.iteP (x := isMu W c) (EvPB.conv (EvPB.cmp (EvP.item (EvP.cell rfl (o5.get (.tail _ (.tail _ (.tail _ (.head _)))))) (EvP.loc lset_self) (ItemP.lst hw5 (by one_sign) (by rw [Int.toNat_natCast]; exact strs_at (by one_sign)) (by one_sign))) EvP.cstr CmpP.eq) rfl) (fun hx => ?_) (fun hx => Ex.nil (Ex.nil ?_))
   ·refine Ex.fresh fun hL5 => Ex.expr (Ev.methB (T := "list") (id := "list.extend") PySem.F.plainAttrs_list PySem.F.slot_list_extend PySem.F.type_list_extend (EvP.to (EvP.loc (by ktr_rel)) ⟨f, rfl, list_there hL5 (o5.get (.tail _ (.tail _ (.head _)))), EvL.cons ?_⟩))
    refine Ev.callG (by ktr_unf) (by ktr_unf) (EvPL.to (EvPL.cons (EvP.loc (by ktr_rel)) (EvPL.cons (EvP.loc (by ktr_rel)) (EvPL.cons (EvP.loc (by ktr_rel)) EvPL.nil))) ?_)
    have e3 : ∀ a ∈ E.2 ++ [c], a ≤ ws.length := fun a ha => by
     rcases List.mem_append.mp ha with ha | ha
     ·exact e2 a ha
     ·rw [List.mem_singleton.mp ha]; exact c2
    have hd := dpPart_len (restI most ws hang) (E.2 ++ [c])
    have e4 : (E.2 ++ [c]).length = E.2.length + 1 := by simp
    refine CalC.cal (CalC.le (line_even_part_ok (n := n) (o5.get (.head _)) (hM.sub o5.sub) (by one_sign) (by one_sign) (by one_sign) e3 hmul fun g H6 o6 => EvL.nil ?_) (by one_sign))
    have o7 := o5.trans o6
    refine Cal.extend (o7.get (.tail _ (.tail _ (.tail _ (.head _))))) (o7.get (.head _)) (by rw [List.length_map, List.length_map]; one_sign) ?_
    have o8 := o7.upd (y := .lst ((stE (restI most ws hang) (isMu W) E c).1.map prD)) 3 rfl
    have ef : E.1.map prD ++ (dpPart (restI most ws hang) (E.2 ++ [c])).map prD = (stE (restI most ws hang) (isMu W) E c).1.map prD := by
     unfold stE; rw [if_pos hx, List.map_append]
    rw [ef]
    revert o8; generalize H6.set f _ = H8; intro o8
    refine Ex.asg (Ev.lst (EvPL.to (EvPL.cons (EvP.loc lset_self) EvPL.nil) ⟨Nat.le_of_ble_eq_true rfl, fun p' hp' _ => Asg.name (Ex.nil (Ex.nil ?_))⟩))
    refine q1 _ _ _ ⟨by ktr_rel, by ktr_rel, by ktr_rel, p', _, by ktr_rel, rfl, by rw [et]; exact hE', ?_⟩
    rw [et]
    have o9 := o8.alloc (x := .lst (natsD (stE (restI most ws hang) (isMu W) E c).2)) hp'
    have ep : (stE (restI most ws hang) (isMu W) E c).2 = [c] := by unfold stE; rw [if_pos hx]
    rw [ep] at o9 ⊢
    exact o9.weak (.cons_cons _ (.cons _ (.cons _ (.cons_cons _ (.cons_cons _ (.cons_cons _ .slnil))))))
   ·refine q1 _ _ _ ⟨by ktr_rel, by ktr_rel, by ktr_rel, p, _, by ktr_rel, rfl, by rw [et]; exact hE', ?_⟩
    rw [et]
    have es : stE (restI most ws hang) (isMu W) E c = (E.1, E.2 ++ [c]) := by unfold stE; rw [if_neg (by rw [hx]; decide)]
    rw [es]; exact o5
  ·rintro m H4 ⟨m1, m2, m3, p, E, m4, rfl, hE, o4⟩
   refine ⟨o4.get (.tail _ (.head _)), Ex.ret (EvP.to (EvP.loc m3) (q f _ ?_))⟩
   rw [natsD_len, List.take_length] at o4
   exact o4.weak (.cons _ (.cons _ (.cons_cons _ (.cons _ .slnil))))
theorem even_lines_ok {x dx hw dh da t tw : Addr} {codes ws : List Int} {S N : Str} {kp : Bool} {most : Int} {W : List Str} {Q : D → Hp → Prop} (hB : BrkAt H x dx da hw dh S N kp) (ht : H t = some (.lst (codes.map .int))) (htw : H tw = some (.lst (ws.map .int))) (hl : ws.length = codes.length) (h1 : 1 ≤ codes.length) (hz : codes.length ≤ 15)
  (hD : ∀ H', Sub H H' → DatOk (mkG w mg mb lo) (n + 3) H' da lb gc ea) (hS : is S "strict" = true) (hc : ∀ c ∈ codes, 0 ≤ c ∧ okV (lb c) = true) (hW : (verL (mkV lb codes S N kp) gc ea (codes.length - 1)).map fstD = W.map .str)
  (hmul : ∀ a b, IntMulOk (restI most ws (fun k => ((codes.map fun c => bareB (lb c)).getD k false)) a b) (restI most ws (fun k => ((codes.map fun c => bareB (lb c)).getD k false)) a b))
  (q : ∀ a L H', Own H H' ((a, .lst (((places ws.length (isCut W)).foldl (stE (restI most ws (fun k => ((codes.map fun c => bareB (lb c)).getD k false))) (isMu W)) ([], [0])).1.map prD)) :: L) → Q (.ref a) H') : CalC (mkG w mg mb lo) (n + 12) H (.ref 429) [.ref x, .ref t, .ref tw, .int most] Q := by
 have hWl : W.length = ws.length + 1 := by
  have := congrArg List.length hW
  rw [List.length_map, List.length_map, verL_len, mkV_len] at this; one_sign
 refine CalC.fn (es := [.ref x, .ref t, .ref tw, .int most]) [Str.ofString "self", Str.ofString "text", Str.ofString "widths", Str.ofString "most"] (by ktr_unf) (by ktr_unf) (fun B T s vs k i => BindsTo.four (fun a b c d => rfl) i) (fun L hL => ?_)
 refine Ex.ret (Ev.callG (by ktr_unf) (by ktr_unf) (EvL.cons ?_))
 refine Ev.methE (C := 432) (f := 403) me_LineBreaks_opportunities.1 me_LineBreaks_opportunities.2.1 me_LineBreaks_opportunities.2.2.1 me_LineBreaks_opportunities.2.2.2 ?_
 refine EvP.to (EvP.loc rfl) ⟨x, dx, _, rfl, hB.x, hB.dx, rfl, EvPL.to (EvPL.cons (EvP.loc rfl) EvPL.nil) ?_⟩
 refine CalC.cal (CalC.le (opps_ok (n := n) hB ht (by one_sign) h1 hD hS hc fun a H1 o1 => EvL.cons ?_) (by one_sign))
 rw [hW] at o1
 refine Ev.methE (C := 432) (f := 413) me_LineBreaks_measure.1 me_LineBreaks_measure.2.1 me_LineBreaks_measure.2.2.1 me_LineBreaks_measure.2.2.2 ?_
 have hB1 := hB.sub o1.sub
 refine EvP.to (EvP.loc rfl) ⟨x, dx, _, rfl, hB1.x, hB1.dx, rfl, EvPL.to (EvPL.cons (EvP.loc rfl) (EvPL.cons (EvP.loc rfl) EvPL.nil)) ?_⟩
 refine CalC.cal (CalC.le (measure_ok (n := n) hB1 (o1.sub _ _ ht) (o1.sub _ _ htw) hl (by one_sign) (fun H' s => hD H' (o1.sub.trans s)) hS hc fun y dy s e H2 L2 o2 hM _ => EvPL.to (EvPL.cons (EvP.loc rfl) EvPL.nil) ?_) (by one_sign))
 refine CalC.cal (CalC.le (line_even_ok (n := n) (o2.sub _ _ (o1.get (.head _))) hM hWl (by one_sign) hmul fun g H3 o3 => q g _ H3 ((o1.trans o2).trans o3)) (by one_sign))
end
noncomputable def deckD (c : Addr) (t : Nat) : List (D × D) := [(ss "cells", .ref c), (ss "at", .int (t : Int))]
noncomputable def DeckOwn (H0 H : Hp) (dk c : Addr) (t : Nat) (L : List (Addr × X)) : Prop := ∃ cs : List Int, Own H0 H ((dk, .dct (deckD c t)) :: (c, .lst (cs.map .int)) :: L) ∧ cs.length ≤ 40
theorem DeckOwn.alloc {H0 H : Hp} {dk c a : Addr} {t : Nat} {x : X} {L : List (Addr × X)} (h : DeckOwn H0 H dk c t L) (ha : H a = none) : DeckOwn H0 (H.set a x) dk c t ((a, x) :: L) := by
 obtain ⟨cs, o, l⟩ := h
 exact ⟨cs, (o.alloc ha).perm ((List.Perm.swap _ _ _).trans ((List.Perm.swap _ _ _).cons _)), l⟩
theorem DeckOwn.get {H0 H : Hp} {dk c a : Addr} {t : Nat} {x : X} {L : List (Addr × X)} (h : DeckOwn H0 H dk c t L) (ha : (a, x) ∈ L) : H a = some x := by
 obtain ⟨cs, o, l⟩ := h
 exact o.get (.tail _ (.tail _ ha))
theorem DeckOwn.trans {H0 H H' : Hp} {dk c : Addr} {t : Nat} {L L' : List (Addr × X)} (h : DeckOwn H0 H dk c t L) (o' : Own H H' L') : DeckOwn H0 H' dk c t (L' ++ L) := by
 obtain ⟨cs, o, l⟩ := h
 exact ⟨cs, (o.trans o').perm (List.perm_append_comm_assoc L' [(dk, X.dct (deckD c t)), (c, .lst (cs.map .int))] L), l⟩
theorem DeckOwn.own {H0 H : Hp} {dk c : Addr} {t : Nat} {L : List (Addr × X)} (h : DeckOwn H0 H dk c t L) : Own H0 H L := by
 obtain ⟨cs, o, l⟩ := h
 exact o.weak (.cons _ (.cons _ (.refl _)))
noncomputable def sgns : List Int := [97, 98, 19968, 32, 32, 10, 160, 19968]
noncomputable def sgn (p : Nat) : Int := sgns.getD p 0
noncomputable def clsL : List (D × D) := [(.int 97, ss "AL"), (.int 98, ss "AL"), (.int 19968, ss "ID"), (.int 32, ss "SP"), (.int 10, ss "LF"), (.int 160, ss "GL")]
noncomputable def cls (p : Nat) : Str := Str.ofString (["AL", "AL", "ID", "SP", "SP", "LF", "GL", "ID"].getD p "")
theorem cls_at {p : Nat} (h : p < 8) : kget (.inr (sgn p)) clsL = some (.str (cls p)) := by
 have : p = 0 ∨ p = 1 ∨ p = 2 ∨ p = 3 ∨ p = 4 ∨ p = 5 ∨ p = 6 ∨ p = 7 := by one_sign
 rcases this with rfl | rfl | rfl | rfl | rfl | rfl | rfl | rfl <;> rfl
section
variable {w : World} {mg mb : Str → Option Value} {lo : Lo} {n : Nat} {H : Hp}
theorem fmod_bounds (a : Int) {b : Int} (h : 0 < b) : 0 ≤ a.fmod b ∧ a.fmod b < b := ⟨Int.fmod_nonneg_of_pos a h, Int.fmod_lt_of_pos a h⟩
theorem law_draw_ok {H0 : Hp} {dk c : Addr} {t : Nat} {L : List (Addr × X)} {many : Int} {Q : D → Hp → Prop} (h : DeckOwn H0 H dk c t L) (h1 : 1 ≤ many) (ht : t ≤ 1000) (q : ∀ v H', 0 ≤ v → v < many → DeckOwn H0 H' dk c (t + 1) L → Q (.int v) H') :
  CalC (mkG w mg mb lo) (n + 2) H (.ref 561) [.ref dk, .int many] Q := by
 obtain ⟨cs, o, l1⟩ := h
 have pd := o.get (.head _)
 have lc : (cs.map D.int).length = cs.length := List.length_map ..
 refine CalC.fn (es := [.ref dk, .int many]) [Str.ofString "deck", Str.ofString "below"] (by ktr_unf) (by ktr_unf) (fun B T s vs k i => BindsTo.two (fun a b => rfl) i) (fun L0 hL => ?_)
 refine Ex.asgS (names := [Str.ofString "at", Str.ofString "cells"]) (EvP.to (EvP.tup (EvPL.cons (EvP.item (EvP.loc rfl) EvP.cstr (ItemP.dct (k := .inl (Str.ofString "at")) (DctAt.own pd) rfl)) (EvPL.cons (EvP.item (EvP.loc rfl) EvP.cstr (ItemP.dct (k := .inl (Str.ofString "cells")) (DctAt.own pd) rfl)) EvPL.nil))) ⟨_, rfl, rfl, rfl, rfl, rfl, rfl, ?_⟩)
 refine Ex.asgI (EvP.to (EvP.bin (EvP.loc (by ktr_rel)) EvP.cint BinP.add) (EvP.to (EvP.loc rfl) (EvP.cstr.to (SetI.dct (k := .inl (Str.ofString "at")) pd (by rfl) ?_ (Nat.le_of_ble_eq_true rfl)))))
 have o1 := o.upd (y := .dct (deckD c (t + 1))) 0 rfl
 show Ex _ _ _ _ (H.set dk (.dct (deckD c (t + 1)))) _ _
 revert o1; generalize H.set dk _ = H1; intro o1
 have hq : ∀ v, 0 ≤ v → v < many → Q (.int v) H1 := fun v a b => q v H1 a b ⟨cs, o1, l1⟩
 have pc := o1.get (.tail _ (.head _))
 have fb := fun a => fmod_bounds a (b := many) (by one_sign)
 refine Ex.iteP (EvPB.cmp (EvP.loc (by ktr_rel)) (EvP.callB (id := "len") (by ktr_unf) rfl (EvPL.cons (EvP.loc (by ktr_rel)) EvPL.nil) (CalP.lenL pc (by one_sign))) CmpP.lt) (fun hx => ?_) (fun hx => Ex.nil ?_)
 ·have hlt : t < cs.length := by have := of_decide_eq_true hx; one_sign
  refine Ex.ret (EvP.to (EvP.bin (EvP.item (EvP.loc (by ktr_rel)) (EvP.loc (by ktr_rel)) (ItemP.lst pc (by one_sign) (d := .int (cs.getD t 0)) (by rw [Int.toNat_natCast, List.getElem?_map, List.getD_eq_getElem?_getD, List.getElem?_eq_getElem hlt]; rfl) (by one_sign))) (EvP.loc rfl) (BinP.mod (by one_sign))) (hq _ (fb _).1 (fb _).2))
 ·refine Ex.iteP (EvPB.eqNil (EvP.loc (by ktr_rel)) pc (by one_sign)) (fun hy => ?_) (fun hy => Ex.nil ?_)
  ·refine Ex.ret (EvP.to (EvP.bin (EvP.bin (EvP.bin (EvP.loc (by ktr_rel)) EvP.cint (BinP.mul (IntMulOk.of_right (by decide)))) (EvP.bin (EvP.loc (by ktr_rel)) EvP.cint (BinP.div (by decide) (PyProof.noPylong_small (by decide)))) BinP.add) (EvP.loc rfl) (BinP.mod (by one_sign))) (hq _ (fb _).1 (fb _).2))
  ·have hne : cs ≠ [] := by rintro rfl; cases hy
   have hp := List.length_pos_iff.mpr hne
   have b1 := fmod_bounds (t : Int) (b := (cs.length : Int)) (by one_sign)
   refine Ex.ret (EvP.to (EvP.bin (EvP.bin (EvP.bin (EvP.bin (EvP.item (EvP.loc (by ktr_rel)) (EvP.bin (EvP.loc (by ktr_rel)) (EvP.callB (id := "len") (by ktr_unf) rfl (EvPL.cons (EvP.loc (by ktr_rel)) EvPL.nil) (CalP.lenL pc (by one_sign))) (BinP.mod (by one_sign))) (ItemP.lst pc (by rw [lc]; one_sign) (d := .int (cs.getD ((t : Int).fmod (cs.length : Int)).toNat 0)) (by rw [lc, List.getElem?_map, List.getD_eq_getElem?_getD, List.getElem?_eq_getElem (by one_sign)]; rfl) (by one_sign))) (EvP.bin (EvP.loc (by ktr_rel)) EvP.cint BinP.add) (BinP.div (by one_sign) (PyProof.noPylong_small (by one_sign)))) (EvP.bin (EvP.loc (by ktr_rel)) EvP.cint (BinP.mul (IntMulOk.of_right (by decide)))) BinP.add) (EvP.bin (EvP.loc (by ktr_rel)) EvP.cint (BinP.div (by decide) (PyProof.noPylong_small (by decide)))) BinP.add) (EvP.loc rfl) (BinP.mod (by one_sign))) (hq _ (fb _).1 (fb _).2))
theorem law_deck_ok {Q : D → Hp → Prop} (hz : lo.2.2.length ≤ 63) (q : ∀ dk c H', DeckOwn H H' dk c 0 [] → Q (.ref dk) H') : CalC (mkG w mg mb lo) (n + 2) H (.ref 554) [.ref lo.2.1] Q := by
 refine CalC.fn (es := [.ref lo.2.1]) [Str.ofString "script"] (by ktr_unf) (by ktr_unf) (fun B T s vs k i => BindsTo.one (fun a => rfl) i) (fun L0 hL => ?_)
 refine Ex.ret ?_
 refine' Ev.dict ?a1 ?a2 ?a3 ?a4 ?a5
 case a2 => rfl
 case a3 => rfl
 case a4 => simp
 case a5 => decide
 case a1 =>
 refine EvD.cons (.inl (Str.ofString "cells")) (EvP.cstr.to ⟨rfl, ?_⟩)
 refine Ev.comp (cl := []) (by one_sign) ?_ ?hcl
 case hcl => rfl
 refine Ev.locs (Ev.slcI (EvP.to (EvP.loc rfl) ⟨lo.2.1, _, _, _, _, rfl, LstI.script (G := mkG w mg mb lo), .no, .yes EvP.cint, .no, by simp, by simp; rw [sizeLine_eq]; one_sign, fun sl hsl hL1 => ?_⟩))
 have ecs : pickL (List.map D.int (mkG w mg mb lo).si) none (some 40) none = (lo.2.2.take 40).map D.int := by rw [pickL_upto _ (by decide), List.map_take]; rfl
 rw [ecs] at hL1 ⊢
 have lz : (lo.2.2.take 40).length ≤ 40 := by rw [List.length_take]; one_sign
 generalize lo.2.2.take 40 = cs at *
 refine ⟨_, _, _, _, Itr.lst (Hp.set_self ..), rfl, hL1, by simp; rw [sizeLine_eq]; one_sign, fun C hC hCL => ?_⟩
 have o0 := (Own.refl H).alloc (x := .lst (cs.map D.int)) hsl
 refine Lc.inv (fun i m H' acc => H' = H.set sl (.lst (cs.map D.int)) ∧ acc = ((cs.take i).map fun c => c.fmod 1000000007).map D.int) ?_ ?_ ⟨rfl, rfl⟩
 ·rintro i d m H' acc hi ⟨rfl, rfl⟩
  obtain ⟨x, hx, rfl⟩ := map_inv hi
  refine ⟨Hp.set_self .., Asg.name ⟨fun _ => ?_, fun h => by cases h⟩⟩
  refine Ev.bin (Ev.callTy (by ktr_unf) rfl (EvPL.to (EvPL.cons (EvP.loc lset_self) EvPL.nil) (Cal.intI (EvP.cint.to (Bin.modI (by decide) ⟨rfl, ?_⟩)))))
  rw [List.take_add_one, hx, List.map_append, List.map_append]; rfl
 ·rintro m H' acc ⟨rfl, rfl⟩
  refine ⟨Hp.set_self .., fun a ha _ => ?_⟩
  refine EvD.cs EvP.cint (EvD.nil ⟨by rfl, fun dk hdk => ?_⟩)
  rw [List.length_map, List.take_length] at hdk ⊢
  have o1 := ((o0.alloc (x := .lst ((cs.map fun c => c.fmod 1000000007).map D.int)) ha).alloc (x := .dct (deckD a 0)) hdk).weak (L' := [(dk, .dct (deckD a 0)), (a, .lst ((cs.map fun c => c.fmod 1000000007).map D.int))]) (.cons_cons _ (.cons_cons _ (.cons _ (.refl _))))
  exact q dk a _ ⟨_, o1, by simpa using lz⟩
theorem classes_ok {Q : D → Hp → Prop} (q : ∀ a, H a = none → Q (.ref a) (H.set a (.dct clsL))) : CalC (mkG w mg mb lo) (n + 1) H (.ref 549) [] Q := by
 refine CalC.fn (es := []) [] (by ktr_unf) (by ktr_unf) (fun B T s vs k i => ⟨[], by cases i; exact BindsTo.of_eq rfl, .nil⟩) (fun L hL => ?_)
 refine Ex.ret ?_
 refine' Ev.dict ?a1 ?a2 ?a3 ?a4 ?a5
 case a2 => rfl
 case a3 => rfl
 case a4 => simp
 case a5 => decide
 case a1 =>
 refine EvD.cons (.inr 97) (EvP.cint.to ⟨rfl, EvP.cstr.to ?_⟩)
 refine EvD.cons (.inr 98) (EvP.cint.to ⟨rfl, EvP.cstr.to ?_⟩)
 refine EvD.cons (.inr 19968) (EvP.cint.to ⟨rfl, EvP.cstr.to ?_⟩)
 refine EvD.cons (.inr 32) (EvP.cint.to ⟨rfl, EvP.cstr.to ?_⟩)
 refine EvD.cons (.inr 10) (EvP.cint.to ⟨rfl, EvP.cstr.to ?_⟩)
 refine EvD.cons (.inr 160) (EvP.cint.to ⟨rfl, EvP.cstr.to ?_⟩)
 exact EvD.nil ⟨by rfl, fun a ha => q a ha⟩
end
noncomputable def dk03 : List (Int × String) := [(97, "AL"), (98, "AL"), (19968, "ID"), (32, "SP"), (10, "LF"), (160, "GL")]
noncomputable def ops03 : List Op := dk03.map fun p => ⟨Str.ofString "lb", Str.ofString "XX", p.1, Str.ofString p.2⟩
theorem ops03_ok (k : Nat) (h : k ≤ 6) : okAll (dbK ops03 k) = true := runs_at ops03 [] (by decide +kernel) k (Nat.zero_le _) (by show k ≤ ops03.length; exact h)
theorem cls_it {i : Nat} {d : D} (h : (clsL.map (·.1))[i]? = some d) : i < 6 ∧ ∃ c x, d = .int c ∧ kget (.inr c) clsL = some (.str x) ∧ ops03.getD i ⟨⟨#[]⟩, ⟨#[]⟩, 0, ⟨#[]⟩⟩ = ⟨Str.ofString "lb", Str.ofString "XX", c, x⟩ ∧ 0 ≤ c ∧ c < 1000000 := by
 have hl : i < 6 := (List.getElem?_eq_some_iff.mp h).1
 refine ⟨hl, ?_⟩
 have : i = 0 ∨ i = 1 ∨ i = 2 ∨ i = 3 ∨ i = 4 ∨ i = 5 := by one_sign
 rcases this with rfl | rfl | rfl | rfl | rfl | rfl <;> (cases h; exact ⟨_, _, rfl, rfl, rfl, by decide, by decide⟩)
noncomputable def rowsL (a b : Str) : List (Bool × String × String) := [(is a "LF", "must", "LB5"), (is b "LF", "no", "LB6"), (is b "SP", "no", "LB7"), (is a "GL", "no", "LB12"), (is b "GL" && !is a "SP", "no", "LB12a"), (is a "SP", "may", "LB18"), (is a "AL" && is b "AL", "no", "LB28"), (true, "may", "LB31")]
noncomputable def rowD (r : Bool × String × String) : D := .tup [.bool r.1, ss r.2.1, ss r.2.2]
noncomputable def rowP (r : Bool × String × String) : D := .tup [ss r.2.1, ss r.2.2]
noncomputable def plD (a b : Str) : D := (((rowsL a b).filter (·.1)).map rowP).headD .none
noncomputable def placeD (ps : List Nat) (i : Nat) : D := if i = 0 then no "LB2" else if i = ps.length then must "LB3" else plD (cls (ps.getD (i - 1) 0)) (cls (ps.getD i 0))
theorem rows_ne (a b : Str) : (((rowsL a b).filter (·.1)).map rowP)[(0 : Int).toNat]? = some (plD a b) := by
 have hm : (true, "may", "LB31") ∈ (rowsL a b).filter (·.1) := List.mem_filter.mpr ⟨by simp [rowsL], rfl⟩
 unfold plD
 cases q : (rowsL a b).filter (·.1) with
 | nil => rw [q] at hm; cases hm
 | cons x r => rfl
section
variable {w : World} {mg mb : Str → Option Value} {lo : Lo} {n : Nat} {H : Hp}
theorem DB.inst {H0 H' : Hp} {da : Addr} {Ls : List (Str × RM)} (h : DB H0 H' da Ls) : ∃ dx a1 a2 a3 a4, H' da = some (.ins 537 dx) ∧ H' dx = some (.dct (dtD a1 a2 a3 a4)) := by
 obtain ⟨⟨dx, a1, a2, a3, a4, dl, es, _, _, _, o⟩, _⟩ := h
 exact ⟨dx, a1, a2, a3, a4, o.get (.head _), o.get (.tail _ (.head _))⟩
theorem DB.alloc {H0 H' : Hp} {da a : Addr} {x : X} {Ls : List (Str × RM)} (h : DB H0 H' da Ls) (ha : H' a = none) : DB H0 (H'.set a x) da Ls := by
 obtain ⟨⟨dx, a1, a2, a3, a4, dl, es, b1, b2, b3, o⟩, h2⟩ := h
 exact ⟨⟨dx, a1, a2, a3, a4, dl, es, b1, b2, b3, (o.alloc ha).weak (.cons _ (.refl _))⟩, h2⟩
theorem DB.up {H0 H' : Hp} {da a : Addr} {x : X} {Ls : List (Str × RM)} (h : DB H0 H' da Ls) (ha : H' a = none) : DB (H0.set a x) (H'.set a x) da Ls := by
 obtain ⟨⟨dx, a1, a2, a3, a4, dl, es, b1, b2, b3, o⟩, h2⟩ := h
 refine ⟨⟨dx, a1, a2, a3, a4, dl, es, b1, b2, b3, fun b y e => ?_, fun p hp => ?_, fun p hp => ?_, o.nd⟩, h2⟩
 ·by_cases z : b = a
  ·subst z; rw [Hp.set_self] at e ⊢; exact e
  ·rw [Hp.set_ne _ _ z] at e ⊢; exact o.sub b y e
 ·exact (Hp.set_ne _ _ (Hp.apart (o.has p hp) ha)).trans (o.new p hp)
 ·exact Hp.keep ha (o.has p hp)
theorem DB.down {H0 H' : Hp} {da a : Addr} {x : X} {Ls : List (Str × RM)} (h : DB (H0.set a x) H' da Ls) (ha : H0 a = none) : DB H0 H' da Ls := by
 obtain ⟨⟨dx, a1, a2, a3, a4, dl, es, b1, b2, b3, o⟩, h2⟩ := h
 exact ⟨⟨dx, a1, a2, a3, a4, dl, es, b1, b2, b3, (Sub.set ha).trans o.sub, fun p hp => Hp.down (o.new p hp), o.has, o.nd⟩, h2⟩
theorem law_data_ok {Q : D → Hp → Prop} (q : ∀ da H', DB H H' da (dbK ops03 6) → Q (.ref da) H') : CalC (mkG w mg mb lo) (n + 6) H (.ref 568) [] Q := by
 refine CalC.fn (es := []) [] (by ktr_unf) (by ktr_unf) (fun B T s vs k i => ⟨[], by cases i; exact BindsTo.of_eq rfl, .nil⟩) (fun L hL => ?_)
 refine Ex.asg (Ev.callG0 (by ktr_unf) (by ktr_unf) (CalC.cal (CalC.le (Data_ok (n := n) fun da dx a1 a2 a3 a4 dl H1 hdl o1 => Asg.name ?_) (by one_sign))))
 have db0 : DB H H1 da (dbK ops03 0) := ⟨⟨dx, a1, a2, a3, a4, dl, [], hdl, rfl, rfl, o1⟩, fun p hp => by cases hp⟩
 have hs := o1.sub
 clear o1 hdl
 refine Ex.for' (by one_sign) (Ev.locs (Ev.callG0 (by ktr_unf) (by ktr_unf) (CalC.cal (CalC.le (CalC.pin (classes_ok (n := n) (Q := fun d H' => ∃ a, d = .ref a ∧ H1 a = none ∧ H' = H1.set a (.dct clsL)) fun a ha => ⟨a, rfl, ha, rfl⟩) ?_) (by one_sign)))))
 rintro _ _ ⟨a, rfl, ha, rfl⟩
 refine ⟨a, clsL, Hp.set_self .., fun ep hL2 => ?_⟩
 rw [Hp.set_set] at hL2 ⊢
 have db1 := db0.up (x := pinX (mkG w mg mb lo).w.params clsL ep) ha
 have hHa : H a = none := hs.fresh ha
 refine ⟨_, _, _, _, Itr.dict (Hp.set_self ..) rfl, rfl, hL2, ?_⟩
 refine Lp.inv (fun i m H' => m (Str.ofString "data") = some (.ref da) ∧ DB (H.set a (pinX (mkG w mg mb lo).w.params clsL ep)) H' da (dbK ops03 i)) ?_ ?_ ⟨rfl, db1⟩
 ·clear db1 db0 hL2
  rintro i d m H2 hi ⟨m1, db⟩
  obtain ⟨hi6, c, x, rfl, hg, ho, c0, c1⟩ := cls_it hi
  have hpin : H2 a = some (pinX (mkG w mg mb lo).w.params clsL ep) := by
   obtain ⟨⟨dx, a1, a2, a3, a4, dl, es, _, _, _, o⟩, _⟩ := db
   exact o.sub _ _ (Hp.set_self ..)
  refine ⟨hpin, Asg.name ?_⟩
  have e1 : dbK ops03 (i + 1) = mput (Str.ofString "lb") (Str.ofString "XX") c c x (dbK ops03 i) := by
   show Op.do (ops03.getD i _) _ = _
   rw [ho]; rfl
  obtain ⟨dx', b1, b2, b3, b4, g1, g2⟩ := db.inst
  refine Ex.expr (Ev.meth (x := da) (C := 537) (dx := dx') (f := 520) me_Data_put.1 me_Data_put.2.1 me_Data_put.2.2.1 me_Data_put.2.2.2 (EvP.to (EvP.loc (by ktr_rel)) ⟨rfl, g1, g2, rfl, ?_⟩))
  refine EvL.cons (EvP.cstr.to (EvL.cons (EvP.to (EvP.loc lset_self) (EvL.cons (EvP.to (EvP.loc lset_self) (EvL.cons ?_))))))
  refine Ev.item (Ev.callG0 (by ktr_unf) (by ktr_unf) (CalC.cal (CalC.le (classes_ok (n := n) fun b hb => EvP.to (EvP.loc lset_self) (Item.dct (k := .inr c) (DctAt.own (Hp.set_self ..)) hg (EvL.nil ?_))) (by one_sign))))
  have db2 := db.alloc (x := .dct clsL) hb
  refine CalC.cal (data_put_ok (n := n) db2 (fun l h => h.lb) (Nat.le_trans (okAll_ok (ops03_ok i (by one_sign))).2 (by decide)) c0 (Int.le_refl _) c1 (by rw [← e1]; exact (okAll_ok (ops03_ok (i + 1) (by one_sign))).1) fun H3 hdb3 => Ex.nil ⟨by ktr_rel, ?_⟩)
  rw [e1]; exact hdb3
 ·rintro m H2 ⟨m1, db⟩
  have hpin : H2 a = some (pinX (mkG w mg mb lo).w.params clsL ep) := by
   obtain ⟨⟨dx, a1, a2, a3, a4, dl, es, _, _, _, o⟩, _⟩ := db
   exact o.sub _ _ (Hp.set_self ..)
  exact ⟨hpin, Ex.ret (EvP.to (EvP.loc m1) (q da H2 (db.down hHa)))⟩
theorem law_place_ok {t : Addr} {ps : List Nat} (ht : H t = some (.lst ((ps.map sgn).map .int))) (hz : ps.length ≤ 50) (hp : ∀ p ∈ ps, p < 8) {i : Nat} (hi : i ≤ ps.length) : CalP (mkG w mg mb lo) (n + 3) H (.ref 573) [.ref t, .int i] (placeD ps i) := by
 have lt : ((ps.map sgn).map D.int).length = ps.length := by simp
 refine CalC.p ?_
 refine CalC.fn (es := [.ref t, .int i]) [Str.ofString "text", Str.ofString "at"] (by ktr_unf) (by ktr_unf) (fun B T s vs k i => BindsTo.two (fun a b => rfl) i) (fun L hL => ?_)
 refine Ex.iteP (EvPB.cmp (EvP.loc rfl) EvP.cint CmpP.eq) (fun hx => Ex.ret (EvP.to (EvP.tup (EvPL.cons EvP.cstr (EvPL.cons EvP.cstr EvPL.nil))) ⟨.refl _, ?_⟩)) (fun hx => Ex.nil ?_)
 ·have : i = 0 := by have := beq_iff_eq.mp (show ((i : Int) == 0) = true from hx); one_sign
  unfold placeD; rw [if_pos this]; rfl
 have h0 : i ≠ 0 := by have := beq_eq_false_iff_ne.mp (show ((i : Int) == 0) = false from hx); one_sign
 refine Ex.iteP (EvPB.cmp (EvP.loc rfl) (EvP.callB (id := "len") (by ktr_unf) rfl (EvPL.cons (EvP.loc rfl) EvPL.nil) (CalP.lenL ht (by one_sign))) CmpP.eq) (fun hy => Ex.ret (EvP.to (EvP.tup (EvPL.cons EvP.cstr (EvPL.cons EvP.cstr EvPL.nil))) ⟨.refl _, ?_⟩)) (fun hy => Ex.nil ?_)
 ·have := beq_iff_eq.mp (show ((i : Int) == (((ps.map sgn).map D.int).length : Int)) = true from hy)
  unfold placeD; rw [if_neg h0, if_pos (by one_sign)]; rfl
 have h1 : i < ps.length := by have := beq_eq_false_iff_ne.mp (show ((i : Int) == (((ps.map sgn).map D.int).length : Int)) = false from hy); one_sign
 clear hx hy
 have sa : ∀ k : Nat, k < ps.length → ((ps.map sgn).map D.int)[k]? = some (.int (sgn (ps.getD k 0))) ∧ kget (.inr (sgn (ps.getD k 0))) clsL = some (.str (cls (ps.getD k 0))) := fun k hk => by
  have e : ps.getD k 0 = ps[k] := by rw [List.getD_eq_getElem?_getD, List.getElem?_eq_getElem hk]; rfl
  refine ⟨?_, cls_at (by rw [e]; exact hp _ (List.getElem_mem _))⟩
  rw [List.getElem?_map, List.getElem?_map, List.getElem?_eq_getElem hk, e]; rfl
 have epl : placeD ps i = plD (cls (ps.getD (i - 1) 0)) (cls (ps.getD i 0)) := by unfold placeD; rw [if_neg h0, if_neg (by one_sign)]
 rw [epl]; clear epl
 obtain ⟨s1, k1⟩ := sa (i - 1) (by one_sign)
 obtain ⟨s2, k2⟩ := sa i h1
 revert s1 k1 s2 k2
 generalize cls (ps.getD (i - 1) 0) = a
 generalize cls (ps.getD i 0) = b
 intro s1 k1 s2 k2
 refine Ex.asgS (names := [Str.ofString "near", Str.ofString "far"]) (Ev.tup (EvL.cons (Ev.item (Ev.callG0 (by ktr_unf) (by ktr_unf) (CalC.cal (CalC.le (classes_ok (n := n) fun d1 hd1 => EvP.to (EvP.item (EvP.loc rfl) (EvP.bin (EvP.loc rfl) EvP.cint BinP.sub) (ItemP.lst (Hp.keep hd1 ht) (by one_sign) (by rw [toNat_p1]; exact s1) (by one_sign))) (Item.dct (k := .inr (sgn (ps.getD (i - 1) 0))) (DctAt.own (Hp.set_self ..)) k1 (EvL.cons ?_))) (by one_sign)))))))
 refine Ev.item (Ev.callG0 (by ktr_unf) (by ktr_unf) (CalC.cal (CalC.le (classes_ok (n := n) fun d2 hd2 => EvP.to (EvP.item (EvP.loc rfl) (EvP.loc rfl) (ItemP.lst (Hp.keep hd2 (Hp.keep hd1 ht)) (by one_sign) (by rw [Int.toNat_natCast]; exact s2) (by one_sign))) (Item.dct (k := .inr (sgn (ps.getD i 0))) (DctAt.own (Hp.set_self ..)) k2 (EvL.nil ⟨Nat.le_of_ble_eq_true rfl, _, rfl, rfl, rfl, rfl, rfl, rfl, ?_⟩))) (by one_sign))))
 have hs := (Sub.set (x := .dct clsL) hd1).trans (Sub.set (x := .dct clsL) hd2)
 revert hs; generalize (H.set d1 (X.dct clsL)).set d2 _ = H1; intro hs
 clear s1 s2 k1 k2 hd1 hd2 sa
 refine' Ex.asg (Ev.lst (EvL.cons (EvP.to (d := rowD (is a "LF", "must", "LB5")) ?r1 (EvL.cons (EvP.to (d := rowD (is b "LF", "no", "LB6")) ?r2 (EvL.cons (EvP.to (d := rowD (is b "SP", "no", "LB7")) ?r3 (EvL.nil ⟨Nat.le_of_ble_eq_true rfl, fun r hr _ => Asg.name ?_⟩))))))))
 case r1 => exact EvP.conv (EvP.tup (EvPL.cons (EvP.cmp (EvP.loc (by ktr_rel)) EvP.cstr CmpP.eq) (EvPL.cons EvP.cstr (EvPL.cons EvP.cstr EvPL.nil)))) rfl
 case r2 => exact EvP.conv (EvP.tup (EvPL.cons (EvP.cmp (EvP.loc (by ktr_rel)) EvP.cstr CmpP.eq) (EvPL.cons EvP.cstr (EvPL.cons EvP.cstr EvPL.nil)))) rfl
 case r3 => exact EvP.conv (EvP.tup (EvPL.cons (EvP.cmp (EvP.loc (by ktr_rel)) EvP.cstr CmpP.eq) (EvPL.cons EvP.cstr (EvPL.cons EvP.cstr EvPL.nil)))) rfl
 have o1 : Own H1 (H1.set r (.lst (((rowsL a b).take 3).map rowD))) [(r, .lst (((rowsL a b).take 3).map rowD))] := (Own.refl H1).alloc hr
 show Ex _ _ _ _ (H1.set r (.lst (((rowsL a b).take 3).map rowD))) _ _
 revert o1; generalize H1.set r _ = H2; intro o1
 clear hr
 refine' Ex.append (EvP.loc (by ktr_rel)) (o1.get (.head _)) (EvP.to (d := rowD (is a "GL", "no", "LB12")) ?r4 ⟨_, o1.get (.head _), Nat.le_of_ble_eq_true rfl, ?_⟩)
 case r4 => exact EvP.conv (EvP.tup (EvPL.cons (EvP.cmp (EvP.loc (by ktr_rel)) EvP.cstr CmpP.eq) (EvPL.cons EvP.cstr (EvPL.cons EvP.cstr EvPL.nil)))) rfl
 have o2 := o1.upd (y := .lst (((rowsL a b).take 4).map rowD)) 0 rfl
 show Ex _ _ _ _ (H2.set r (.lst (((rowsL a b).take 4).map rowD))) _ _
 revert o2; generalize H2.set r _ = H3; intro o2
 clear o1
 refine' Ex.asg (Ev.bin (EvP.to (EvP.loc (by ktr_rel)) (Ev.lst (EvL.cons (EvP.to (d := rowD (is b "GL" && !is a "SP", "no", "LB12a")) ?r5 (EvL.cons (EvP.to (d := rowD (is a "SP", "may", "LB18")) ?r6 (EvL.nil ⟨Nat.le_of_ble_eq_true rfl, fun c hc _ => Bin.addL (LstAt.own (Hp.keep hc (o2.get (.head _)))) (LstAt.own (Hp.set_self ..)) (Nat.le_of_ble_eq_true rfl) fun r2 hr2 => Asg.name ?_⟩))))))))
 case r5 => exact EvP.conv (EvP.tup (EvPL.cons (EvP.and (EvP.cmp (EvP.loc (by ktr_rel)) EvP.cstr CmpP.eq) fun _ => EvP.one (EvP.cmp (EvP.loc (by ktr_rel)) EvP.cstr CmpP.ne)) (EvPL.cons EvP.cstr (EvPL.cons EvP.cstr EvPL.nil)))) rfl
 case r6 => exact EvP.conv (EvP.tup (EvPL.cons (EvP.cmp (EvP.loc (by ktr_rel)) EvP.cstr CmpP.eq) (EvPL.cons EvP.cstr (EvPL.cons EvP.cstr EvPL.nil)))) rfl
 have o3 := ((o2.alloc hc).alloc (x := .lst (((rowsL a b).take 6).map rowD)) hr2).weak (L' := [(r2, .lst (((rowsL a b).take 6).map rowD))]) (.cons_cons _ (.cons _ (.cons _ .slnil)))
 refine Ex.forgetH (H₀ := H3.set r2 (.lst (((rowsL a b).take 6).map rowD))) ?_ ?_
 rotate_left
 ·intro x y e
  by_cases z : x = r2
  ·subst z; rw [Hp.set_self] at e ⊢; exact e
  ·rw [Hp.set_ne _ _ z] at e ⊢; exact Hp.keep hc e
 have hr3 := Hp.down hr2
 replace o3 : Own H1 (H3.set r2 (.lst (((rowsL a b).take 6).map rowD))) [(r2, .lst (((rowsL a b).take 6).map rowD))] := (o2.alloc hr3).weak (.cons_cons _ (.cons _ .slnil))
 revert o3; generalize H3.set r2 _ = H4; intro o3
 clear o2 hr2 hr3 hc
 refine' Ex.asg (Ev.bin (EvP.to (EvP.loc (by ktr_rel)) (Ev.lst (EvL.cons (EvP.to (d := rowD (is a "AL" && is b "AL", "no", "LB28")) ?r7 (EvL.cons (EvP.to (d := rowD (true, "may", "LB31")) ?r8 (EvL.nil ⟨Nat.le_of_ble_eq_true rfl, fun c hc _ => Bin.addL (LstAt.own (Hp.keep hc (o3.get (.head _)))) (LstAt.own (Hp.set_self ..)) (Nat.le_of_ble_eq_true rfl) fun r4 hr4 => Asg.name ?_⟩))))))))
 case r7 => exact EvP.conv (EvP.tup (EvPL.cons (EvP.and (EvP.cmp (EvP.loc (by ktr_rel)) EvP.cstr CmpP.eq) fun _ => EvP.one (EvP.cmp (EvP.loc (by ktr_rel)) EvP.cstr CmpP.eq)) (EvPL.cons EvP.cstr (EvPL.cons EvP.cstr EvPL.nil)))) rfl
 case r8 => exact EvP.conv (EvP.tup (EvPL.cons EvP.cbool (EvPL.cons EvP.cstr (EvPL.cons EvP.cstr EvPL.nil)))) rfl
 have o4 := ((o3.alloc hc).alloc (x := .lst ((rowsL a b).map rowD)) hr4).weak (L' := [(r4, .lst ((rowsL a b).map rowD))]) (.cons_cons _ (.cons _ (.cons _ .slnil)))
 show Ex _ _ _ _ (Hp.set _ r4 (.lst ((rowsL a b).map rowD))) _ _
 revert o4; generalize Hp.set _ r4 _ = H5; intro o4
 clear o3 hr4 hc
 have hs5 := hs.trans o4.sub
 refine Ex.fresh fun hL5 => Ex.ret (Ev.item (Ev.comp (cl := []) (by one_sign) ?_ ?hcl))
 case hcl => rfl
 refine EvP.to (EvP.loc (by ktr_rel)) ⟨_, _, _, _, Itr.lst (o4.get (.head _)), rfl, hL5, Nat.le_of_ble_eq_true rfl, fun C hC hCL => ?_⟩
 refine Lc.inv (fun i m H' acc => H' = H5 ∧ acc = (((rowsL a b).take i).filter (·.1)).map rowP) ?_ ?_ ⟨rfl, rfl⟩
 ·rintro j d m H' acc hj ⟨rfl, rfl⟩
  obtain ⟨x, hx, rfl⟩ := map_inv hj
  have et : (((rowsL a b).take (j + 1)).filter (·.1)).map rowP = (((rowsL a b).take j).filter (·.1)).map rowP ++ (bif x.1 then [rowP x] else []) := by
   rw [List.take_add_one, hx, List.filter_append, List.map_append]
   cases q : x.1 <;> simp [q]
  refine ⟨o4.get (.head _), Asg.tup (AsgL.cons (Asg.name (AsgL.cons (Asg.name (AsgL.cons (Asg.name (AsgL.nil ?_)))))))⟩
  refine EvPB.to (b := x.1) (EvPB.plain (EvP.loc (by ktr_rel)) TruP.bool) ⟨fun hb => EvP.to (d := rowP x) (EvP.tup (EvPL.cons (EvP.loc (by ktr_rel)) (EvPL.cons (EvP.loc (by ktr_rel)) EvPL.nil))) ⟨rfl, ?_⟩, fun hb => ⟨rfl, ?_⟩⟩
  ·rw [et, hb]; rfl
  ·rw [et, hb]; simp
 ·rintro m H' acc ⟨rfl, rfl⟩
  refine ⟨o4.get (.head _), fun f hf _ => EvP.cint.to ?_⟩
  rw [List.length_map, List.take_length]
  exact Item.lst (Hp.set_self ..) (by decide) (rows_ne a b) ⟨hs5.trans (Sub.set hf), rfl⟩ (by rw [List.length_map]; exact Nat.lt_of_le_of_lt (List.length_filter_le _ _) (Nat.le_of_ble_eq_true rfl))
end
noncomputable def optV : Option Int → D
 | none => .none
 | some x => .int x
noncomputable def mayI (W : List Str) (a b : Int) : Bool := ((W.drop (a.toNat + 1)).take (b.toNat - (a.toNat + 1))).any fun x => x == Str.ofString "may"
theorem lwTo_none {rest : Int → Int → Int} {may : Int → Int → Bool} {ls : List (Int × Int)} {i : Nat} (h : lwTo rest may ls i = none) : ∀ j, lwTo rest may ls (i + j) = none
 | 0 => h
 | j + 1 => by
  show lwTo rest may ls ((i + j) + 1) = none
  rw [lwTo, lwTo_none h j]; rfl
noncomputable def inV (x : Int) : Bool := ([D.int 32, .int 10]).any fun e => deq e (.int x)
section
variable {w : World} {mg mb : Str → Option Value} {lo : Lo} {n : Nat} {H : Hp}
theorem law_width_ok {t tw : Addr} {cs ws : List Int} (ht : H t = some (.lst (cs.map .int))) (hw : H tw = some (.lst (ws.map .int))) (hl : ws.length = cs.length) (hz : cs.length ≤ 100) {a b : Nat} (hab : a ≤ b) (hb : b ≤ cs.length) :
  CalP (mkG w mg mb lo) (n + 2) H (.ref 580) [.ref t, .ref tw, .int a, .int b] (.int (wid ws (fun k => inV (cs.getD k 0)) a b)) := by
 have lc : (cs.map D.int).length = cs.length := List.length_map ..
 have lw : (ws.map D.int).length = cs.length := by rw [List.length_map, hl]
 refine CalC.p ?_
 refine CalC.fn (es := [.ref t, .ref tw, .int a, .int b]) [Str.ofString "text", Str.ofString "widths", Str.ofString "start", Str.ofString "end"] (by ktr_unf) (by ktr_unf) (fun B T s vs k i => BindsTo.four (fun a b c d => rfl) i) (fun L hL => ?_)
 refine Ex.while' (b + 1) (Whl.inv (fun k m H' => H' = H ∧ m (Str.ofString "text") = some (.ref t) ∧ m (Str.ofString "widths") = some (.ref tw) ∧ m (Str.ofString "start") = some (.int (a : Int)) ∧ m (Str.ofString "end") = some (.int (k : Int)) ∧ a ≤ k ∧ k ≤ b ∧ wB (fun k => inV (cs.getD k 0)) a k = wB (fun k => inV (cs.getD k 0)) a b) ?_ b ⟨rfl, rfl, rfl, rfl, rfl, hab, Nat.le_refl _, rfl⟩)
 rintro k m H' ⟨rfl, m1, m2, m3, m4, k1, k2, kw⟩
 refine EvPB.to (EvPB.and (b := inV (cs.getD (k - 1) 0)) (EvPB.cmp (EvP.loc m4) (EvP.loc m3) CmpP.gt) (fun hx => EvPB.and1 (EvPB.conv (EvPB.cmp (EvP.item (EvP.loc m1) (EvP.bin (EvP.loc m4) EvP.cint BinP.sub) (ItemP.lst ht (by have := of_decide_eq_true hx; one_sign) (d := .int (cs.getD (k - 1) 0)) (by have := of_decide_eq_true hx; rw [toNat_p1, List.getElem?_map, List.getD_eq_getElem?_getD, List.getElem?_eq_getElem (by one_sign)]; rfl) (by one_sign))) (EvP.tup (EvPL.cons EvP.cint (EvPL.cons EvP.cint EvPL.nil))) (CmpP.inT rfl (by one_sign))) rfl))) ⟨fun hx => ?_, fun hx => ?_⟩
 ·obtain ⟨h1, h2⟩ := Bool.and_eq_true_iff.mp hx
  have hlt := of_decide_eq_true h1
  obtain ⟨k, rfl⟩ : ∃ j, k = j + 1 := ⟨k - 1, by one_sign⟩
  refine Ex.asg (EvP.to (EvP.bin (EvP.loc m4) EvP.cint BinP.sub) (Asg.name (Ex.nil ⟨k, Nat.lt_succ_self _, rfl, by ktr_rel, by ktr_rel, by ktr_rel, ?_, by one_sign, by one_sign, ?_⟩)))
  ·rw [show (((k + 1 : Nat) : Int) - 1) = (k : Int) by one_sign]; exact lset_self
  ·rw [← kw]
   show _ = if a < k + 1 ∧ inV (cs.getD k 0) = true then _ else _
   rw [if_pos ⟨by one_sign, h2⟩]
 ·have ek : k = max a (wE (fun k => inV (cs.getD k 0)) b) := by
   rw [← wB_eq _ a b hab, ← kw]
   cases k with
   | zero => rfl
   | succ k =>
    show _ = if a < k + 1 ∧ inV (cs.getD k 0) = true then _ else _
    rw [if_neg]
    rintro ⟨q1, q2⟩
    have : (decide (((k + 1 : Nat) : Int) > (a : Int)) && inV (cs.getD k 0)) = true := by rw [decide_eq_true (by one_sign), q2]; rfl
    have hx' : (decide (((k + 1 : Nat) : Int) > (a : Int)) && inV (cs.getD k 0)) = false := hx
    rw [this] at hx'; cases hx'
  refine Ex.ret (Ev.callBi (by ktr_unf) rfl (EvL.cons (Ev.slc (EvP.to (EvP.loc m2) ⟨tw, _, _, _, _, rfl, LstAt.own hw, .yes (EvP.loc m3), .yes (EvP.loc m4), .no, by simp, by rw [lw, sizeLine_eq]; one_sign, fun g hg => EvL.nil ?_⟩))))
  have es : pickL (ws.map D.int) (some (a : Int)) (some (k : Int)) none = ((ws.drop a).take (k - a)).map D.int := by
   rw [pickL_run _ (by one_sign) (by one_sign), List.map_take, List.map_drop, Int.toNat_natCast, Int.toNat_natCast]
  rw [es]
  refine Cal.sum (Hp.set_self ..) ⟨Sub.set hg, ?_⟩
  rw [sum_run ws k1]
  unfold wid
  rw [← ek]; rfl
inductive InvW (H : Hp) (l kn t tw : Addr) (most : Int) (v : Option Int) (m : Loc) (H' : Hp) : Prop
 | mk (e : H' = H) (m1 : m (Str.ofString "lines") = some (.ref l)) (m2 : m (Str.ofString "known") = some (.ref kn)) (m3 : m (Str.ofString "text") = some (.ref t)) (m4 : m (Str.ofString "widths") = some (.ref tw)) (m5 : m (Str.ofString "most") = some (.int most)) (x : Int) (m6 : m (Str.ofString "found") = some (.int x)) (hx : v = some x)
theorem law_worth_ok {l kn t tw : Addr} {ls : List (Int × Int)} {W : List Str} {cs ws : List Int} {most : Int} (hl : H l = some (.lst (ls.map prD))) (hk : H kn = some (.lst (W.map .str))) (ht : H t = some (.lst (cs.map .int))) (hw : H tw = some (.lst (ws.map .int))) (hlw : ws.length = cs.length) (hWl : W.length = cs.length + 1) (hz : cs.length ≤ 100) (hls : ls.length ≤ 100)
  (hb : ∀ q ∈ ls, ∃ a b : Nat, q = ((a : Int), (b : Int)) ∧ a ≤ b ∧ b ≤ cs.length) (hmul : ∀ a b, IntMulOk (restI most ws (fun k => inV (cs.getD k 0)) a b) (restI most ws (fun k => inV (cs.getD k 0)) a b)) :
  CalP (mkG w mg mb lo) (n + 4) H (.ref 587) [.ref l, .ref kn, .ref t, .ref tw, .int most] (optV (lwTo (restI most ws fun k => inV (cs.getD k 0)) (mayI W) ls ls.length)) := by
 have ll : (ls.map prD).length = ls.length := List.length_map ..
 have lW : (W.map D.str).length = cs.length + 1 := by rw [List.length_map, hWl]
 refine CalC.p ?_
 refine CalC.fn (es := [.ref l, .ref kn, .ref t, .ref tw, .int most]) [Str.ofString "lines", Str.ofString "known", Str.ofString "text", Str.ofString "widths", Str.ofString "most"] (by ktr_unf) (by ktr_unf) (fun B T s vs kk i => ?_) (fun L hL => ?_)
 ·cases i with | cons a i =>
  cases i with | cons b i =>
  cases i with | cons c i =>
  cases i with | cons d i =>
  cases i with | cons e i =>
  cases i
  exact ⟨_, BindsTo.of_eq rfl, .cons a (.cons b (.cons c (.cons d (.cons e .nil))))⟩
 refine Ex.asg (EvP.cint.to (Asg.name ?_))
 refine Ex.forEnum (by one_sign) (by ktr_unf) rfl (EvP.loc rfl) hl rfl ?_
 refine Lp.inv (fun i m H' => InvW H l kn t tw most (lwTo (restI most ws fun k => inV (cs.getD k 0)) (mayI W) ls i) m H') ?_ ?_ ⟨rfl, rfl, rfl, rfl, rfl, rfl, 0, lset_self, rfl⟩
 ·rintro i d m H' hi ⟨rfl, m1, m2, m3, m4, m5, x, m6, hx⟩
  obtain ⟨_, hi2, rfl⟩ := enuL_inv hi
  obtain ⟨q, hq, rfl⟩ := map_inv hi2
  have hil : i < ls.length := (List.getElem?_eq_some_iff.mp hq).1
  have egq : ls.getD i (0, 0) = q := by rw [List.getD_eq_getElem?_getD, hq]; rfl
  obtain ⟨a, b, rfl, hab, hbc⟩ := hb q (List.mem_of_getElem? hq)
  have st : lwTo (restI most ws fun k => inV (cs.getD k 0)) (mayI W) ls (i + 1) = if restI most ws (fun k => inV (cs.getD k 0)) a b < 0 ∧ mayI W a b = true then none else some (if 0 < restI most ws (fun k => inV (cs.getD k 0)) a b ∧ i + 1 < ls.length then x + restI most ws (fun k => inV (cs.getD k 0)) a b * restI most ws (fun k => inV (cs.getD k 0)) a b else x) := by
   rw [lwTo, hx, egq]; rfl
  have hm2 := hmul a b
  have eR : most - wid ws (fun k => inV (cs.getD k 0)) a b = restI most ws (fun k => inV (cs.getD k 0)) a b := rfl
  revert st hm2 eR
  generalize restI most ws (fun k => inV (cs.getD k 0)) a b = R
  intro st hm2 eR
  refine ⟨hl, Asg.tup (AsgL.cons (Asg.name (AsgL.cons (Asg.tup (AsgL.cons (Asg.name (AsgL.cons (Asg.name (AsgL.nil (AsgL.nil ?_))))))))))⟩
  refine Ex.any fun Q0 q0 => ?_
  refine Ex.asg (EvP.to (EvP.bin (EvP.loc (by ktr_rel)) (EvP.callD (f := 580) (by ktr_unf) (EvP.glob (by ktr_unf) IsTop.ref) (EvPL.cons (EvP.loc (by ktr_rel)) (EvPL.cons (EvP.loc (by ktr_rel)) (EvPL.cons (EvP.loc (by ktr_rel)) (EvPL.cons (EvP.loc (by ktr_rel)) EvPL.nil)))) ((law_width_ok (n := n) ht hw hlw hz hab hbc).le (by one_sign))) BinP.sub) (Asg.name ?_))
  rw [eR]
  refine Ex.iteP (EvPB.and (b := mayI W a b) (EvPB.cmp (EvP.loc lset_self) EvP.cint CmpP.lt) (fun _ => EvPB.and1 (EvB.p (EvB.cmp (EvP.cstr.to (Ev.slc (EvP.to (EvP.loc (by ktr_rel)) ⟨kn, _, _, _, _, rfl, LstAt.own hk, .yes (EvP.bin (EvP.loc (by ktr_rel)) EvP.cint BinP.add), .yes (EvP.loc (by ktr_rel)), .no, by simp, by rw [lW, sizeLine_eq]; one_sign, fun g hg => ?_⟩))))))) (fun hy => Ex.ret (EvP.cnone.to (q0 _ _ _ ⟨.refl _, ?_⟩))) (fun hy => Ex.nil ?_)
  ·have es : pickL (W.map D.str) (some ((a : Int) + 1)) (some (b : Int)) none = ((W.drop (a + 1)).take (b - (a + 1))).map D.str := by
    rw [pickL_run _ (by one_sign) (by one_sign), List.map_take, List.map_drop, show ((a : Int) + 1).toNat = a + 1 from rfl, Int.toNat_natCast]
   rw [es]
   refine Cmp.inL (Hp.set_self ..) (Tru.bool ⟨Sub.set hg, ?_⟩) ?_ (by one_sign)
   ·unfold mayI
    rw [List.any_map]; rfl
   ·rw [List.all_map, List.all_eq_true]; intro _ _; rfl
  ·obtain ⟨q1, q2⟩ := Bool.and_eq_true_iff.mp hy
   rw [if_pos ⟨of_decide_eq_true q1, q2⟩] at st
   have := lwTo_none st (ls.length - (i + 1))
   rw [show i + 1 + (ls.length - (i + 1)) = ls.length by one_sign] at this
   rw [this]; rfl
  ·have hny : ¬ (R < 0 ∧ mayI W a b = true) := fun q => by
    have : (decide (R < 0) && mayI W a b) = true := by rw [decide_eq_true q.1, q.2]; rfl
    rw [this] at hy; cases hy
   rw [if_neg hny] at st
   refine Ex.iteP (EvPB.and (EvPB.cmp (EvP.loc lset_self) EvP.cint CmpP.gt) (fun _ => EvPB.and1 (EvPB.cmp (EvP.bin (EvP.loc (by ktr_rel)) EvP.cint BinP.add) (EvP.callB (id := "len") (by ktr_unf) rfl (EvPL.cons (EvP.loc (by ktr_rel)) EvPL.nil) (CalP.lenL hl (by one_sign))) CmpP.lt))) (fun hu => ?_) (fun hu => Ex.nil (Ex.nil ?_))
   ·obtain ⟨q1, q2⟩ := Bool.and_eq_true_iff.mp hu
    have q1 : 0 < R := of_decide_eq_true q1
    have q2 := of_decide_eq_true q2
    rw [ll] at q2
    rw [if_pos ⟨q1, by one_sign⟩] at st
    refine Ex.asg (EvP.to (EvP.bin (EvP.loc (by ktr_rel)) (EvP.bin (EvP.loc (by ktr_rel)) (EvP.loc (by ktr_rel)) (BinP.mul hm2)) BinP.add) (Asg.name (Ex.nil (Ex.nil (q0 _ _ _ ⟨rfl, by ktr_rel, by ktr_rel, by ktr_rel, by ktr_rel, by ktr_rel, _, lset_self, st⟩)))))
   ·have : ¬ (0 < R ∧ i + 1 < ls.length) := fun q => by
     have : (decide (R > 0) && decide ((i : Int) + 1 < ((ls.map prD).length : Int))) = true := by rw [ll, decide_eq_true (by one_sign), decide_eq_true (by one_sign)]; rfl
     have hu' : (decide (R > 0) && decide ((i : Int) + 1 < ((ls.map prD).length : Int))) = false := hu
     rw [this] at hu'; cases hu'
    rw [if_neg this] at st
    exact q0 _ _ _ ⟨rfl, by ktr_rel, by ktr_rel, by ktr_rel, by ktr_rel, by ktr_rel, x, by ktr_rel, st⟩
 ·rintro m H' ⟨rfl, m1, m2, m3, m4, m5, x, m6, hx⟩
  rw [enuL_len, ll] at hx
  exact ⟨hl, Ex.ret (EvP.to (EvP.loc m6) ⟨.refl _, by rw [hx]; rfl⟩)⟩
end
noncomputable def isMay (W : List Str) (k : Nat) : Bool := is (W.getD k ⟨#[]⟩) "may"
theorem mayI_iff (W : List Str) (a b : Nat) : mayI W a b = true ↔ ∃ c, a < c ∧ c < b ∧ isMay W c = true := by
 unfold mayI isMay
 rw [List.any_eq_true, Int.toNat_natCast, Int.toNat_natCast]
 constructor
 ·rintro ⟨x, hx, e⟩
  obtain ⟨j, hj, rfl⟩ := List.mem_iff_getElem.mp hx
  rw [List.length_take, List.length_drop] at hj
  refine ⟨a + 1 + j, Nat.lt_of_lt_of_le (Nat.lt_succ_self a) (Nat.le_add_right _ _), Nat.add_lt_of_lt_sub' (Nat.lt_of_lt_of_le hj (Nat.min_le_left _ _)), ?_⟩
  rw [List.getD_eq_getElem?_getD, List.getElem?_eq_getElem (Nat.add_lt_of_lt_sub' (Nat.lt_of_lt_of_le hj (Nat.min_le_right _ _)))]
  rw [List.getElem_take, List.getElem_drop] at e
  exact e
 ·rintro ⟨c, c1, c2, e⟩
  have hc : c < W.length := by
   refine Nat.lt_of_not_le fun q => ?_
   rw [List.getD_eq_getElem?_getD, List.getElem?_eq_none q] at e
   exact absurd e (by decide)
  rw [List.getD_eq_getElem?_getD, List.getElem?_eq_getElem hc] at e
  refine ⟨W[c], List.mem_iff_getElem.mpr ⟨c - (a + 1), ?_, ?_⟩, e⟩
  ·rw [List.length_take, List.length_drop]
   exact Nat.lt_min.mpr ⟨Nat.sub_lt_sub_right c1 c2, Nat.sub_lt_sub_right c1 hc⟩
  ·rw [List.getElem_take, List.getElem_drop]
   congr 1; exact Nat.add_sub_of_le c1
theorem places_pw (N : Nat) (f : Nat → Bool) : (places N f).Pairwise (· < ·) := by
 unfold places
 refine List.Pairwise.filter _ ?_
 rw [List.pairwise_map]
 exact List.pairwise_lt_range.imp fun h => by one_sign
noncomputable def ptN (may : Nat → Bool) (s e : Nat) (i : Nat) : Int := (((prt may s e).getD i 0 : Nat) : Int)
noncomputable def cutsN (may : Nat → Bool) (s e b : Nat) : List Nat := ((mays may s e).length + 1) :: cand (mays may s e).length b
noncomputable def bitB (b k : Nat) : Bool := decide (b / 2 ^ k % 2 = 1)
theorem bit_py (b k : Nat) : deq (.int (((b : Int).fdiv ((2 ^ k : Nat) : Int)).fmod 2)) (.int 1) = bitB b k := by
 have h : ((b : Int).fdiv ((2 ^ k : Nat) : Int)).fmod 2 = ((b / 2 ^ k % 2 : Nat) : Int) := by
  rw [Int.fdiv_eq_ediv_of_nonneg _ (Int.natCast_nonneg _), Int.fmod_eq_emod_of_nonneg _ (by decide), ← Int.natCast_ediv]
  one_sign
 rw [h]
 show (((b / 2 ^ k % 2 : Nat) : Int) == 1) = _
 unfold bitB
 rw [Bool.eq_iff_iff, beq_iff_eq, decide_eq_true_iff]; one_sign
theorem cuts_py (may : Nat → Bool) (s e b : Nat) : natsD ([s] ++ ((List.range (mays may s e).length).filter (bitB b)).map (fun k => (mays may s e).getD k 0) ++ [e]) = (((cutsN may s e b).reverse).map (ptN may s e)).map .int := by
 unfold cutsN cand bitsL
 rw [List.reverse_cons, List.reverse_reverse]
 unfold natsD
 simp only [List.map_append, List.map_map, List.map_cons, List.map_nil, List.cons_append, List.nil_append]
 congr 1
 congr 1
 ·refine List.map_congr_left fun k hk => ?_
  have hk := (List.mem_filter.mp hk).1
  have hk := List.mem_range.mp hk
  show D.int _ = D.int (ptN may s e (k + 1))
  unfold ptN prt
  rw [List.getD_cons_succ, List.getD_eq_getElem?_getD (l := _ ++ _), List.getElem?_append_left hk, ← List.getD_eq_getElem?_getD]
 ·show [D.int (e : Int)] = [D.int (ptN may s e ((mays may s e).length + 1))]
  unfold ptN
  rw [prt_ends.2]
theorem lines_py (p : Nat → Int) (l : List Nat) : ((((l.reverse).map p).map D.int).dropLast.zip (((l.reverse).map p).map D.int).tail).map (fun q => D.tup [q.1, q.2]) = (mp2 p (prs l)).map prD := by
 rw [← zip_prs l]
 unfold mp2
 rw [List.map_map, ← List.map_dropLast, ← List.map_tail, List.zip_map, List.map_map, List.map_map]
 rfl
theorem rev_py (p : Nat → Int) (k : Nat) (l : List Nat) : ((((k :: l).reverse).map p).map D.int).dropLast.reverse = (l.map p).map D.int := by
 rw [List.reverse_cons, List.map_append, List.map_append]
 simp
theorem lines_ok (may : Nat → Bool) {s e b : Nat} (h : s < e) : ∀ q ∈ mp2 (ptN may s e) (prs (cutsN may s e b)), ∃ x y : Nat, q = ((x : Int), (y : Int)) ∧ x ≤ y ∧ y ≤ e := by
 obtain ⟨j, t, ec, hj, hd⟩ := cand_dn b (mays may s e).length
 have hD : Dn (cutsN may s e b) := by unfold cutsN; rw [ec]; exact ⟨by one_sign, hd⟩
 have hh : ∃ t, cutsN may s e b = ((mays may s e).length + 1) :: t := ⟨_, rfl⟩
 have key : ∀ (l : List Nat) (k : Nat) (t : List Nat), l = k :: t → k ≤ (mays may s e).length + 1 → Dn l → ∀ q ∈ prs l, q.1 < q.2 ∧ q.2 ≤ (mays may s e).length + 1 := by
  intro l
  induction l with
  | nil => intro k t e; cases e
  | cons a l ih =>
   intro k t e hk hd q hq
   cases l with
   | nil => cases hq
   | cons j l =>
    have ha : a = k := (List.cons.inj e).1
    rcases List.mem_append.mp hq with hq | hq
    ·exact ih j l rfl (by have := hd.1; one_sign) hd.2 q hq
    ·rw [List.mem_singleton.mp hq]
     exact ⟨hd.1, by one_sign⟩
 obtain ⟨t, et⟩ := hh
 intro q hq
 unfold mp2 at hq
 obtain ⟨q0, h0, rfl⟩ := List.mem_map.mp hq
 obtain ⟨q1, q2⟩ := key _ _ _ et (Nat.le_refl _) hD q0 h0
 refine ⟨_, _, rfl, Nat.le_of_lt (prt_mono h q1 q2), ?_⟩
 by_cases z : q0.2 = (mays may s e).length + 1
 ·rw [z, prt_ends.2]; exact Nat.le_refl _
 ·have := prt_mono (may := may) h (i := q0.2) (j := (mays may s e).length + 1) (by one_sign) (Nat.le_refl _)
  rw [prt_ends.2] at this; one_sign
theorem mays_len (may : Nat → Bool) (s e : Nat) : (mays may s e).length ≤ e := by
 unfold mays
 refine Nat.le_trans (List.length_filter_le _ _) ?_
 simp
theorem prs_le (may : Nat → Bool) (s e b : Nat) : (cutsN may s e b).length ≤ e + 3 := by
 unfold cutsN cand bitsL
 have := mays_len may s e
 have h2 := List.length_filter_le (fun k => decide (b / 2 ^ k % 2 = 1)) (List.range (mays may s e).length)
 simp at h2 ⊢
 one_sign
noncomputable def bestD (rk rl : Addr) : Option (Int × Nat) → D
 | none => .none
 | some b => .tup [.tup [.int b.1, .ref rk], .ref rl]
noncomputable def bestL (may : Nat → Bool) (s e : Nat) (rk rl : Addr) : Option (Int × Nat) → List (Addr × X)
 | none => []
 | some b => [(rk, .lst (((cand (mays may s e).length b.2).map (ptN may s e)).map .int)), (rl, .lst ((mp2 (ptN may s e) (prs (cutsN may s e b.2))).map prD))]
noncomputable def WN (rest : Int → Int → Int) (W : List Str) (s e b : Nat) : Option Int := lwTo rest (mayI W) (mp2 (ptN (isMay W) s e) (prs (cutsN (isMay W) s e b))) (prs (cutsN (isMay W) s e b)).length
noncomputable def bruteN (rest : Int → Int → Int) (W : List Str) (s e N : Nat) : Option (Int × Nat) := brute (WN rest W s e) (fun b => (cand (mays (isMay W) s e).length b).map (ptN (isMay W) s e)) N
theorem bruteN_end {rest : Int → Int → Int} {W : List Str} {s e : Nat} (h : s < e) : ∃ b, bruteN rest W s e (2 ^ (mays (isMay W) s e).length) = some b ∧ mp2 (ptN (isMay W) s e) (prs (cutsN (isMay W) s e b.2)) = dpPart rest (prt (isMay W) s e) := by
 obtain ⟨i, w, h1, h2⟩ := dpPart_brute (rest := rest) (may := isMay W) (mayI := mayI W) h (mayI_iff W)
 exact ⟨(w, i), h1, h2⟩
section
variable {w : World} {mg mb : Str → Option Value} {lo : Lo} {n : Nat} {H : Hp}
theorem BinP.pow2 {G : Gd} {b : Nat} (hb : b ≤ 60) : BinP G n H .Pow (.int 2) (.int (b : Int)) (.int ((2 ^ b : Nat) : Int)) := ⟨Bin.pow2 hb ⟨rfl, rfl⟩⟩
inductive InvB (H : Hp) (W : List Str) (rest : Int → Int → Int) (E1 : List (Int × Int)) (pl : List D) (kn t tw f a fr L : Addr) (most : Int) (s e b : Nat) (m : Loc) (H' : Hp) : Prop
 | mk (k1 : m (Str.ofString "text") = some (.ref t)) (k2 : m (Str.ofString "widths") = some (.ref tw)) (k3 : m (Str.ofString "most") = some (.int most)) (k4 : m (Str.ofString "found") = some (.ref f)) (k5 : m (Str.ofString "start") = some (.int (s : Int))) (k6 : m (Str.ofString "end") = some (.int (e : Int))) (k7 : m (Str.ofString "free") = some (.ref fr)) (rk rl : Addr) (nv : Option D) (kb : m (Str.ofString "best") = some (bestD rk rl (bruteN rest W s e b)))
  (o : Own H H' ((fr, .lst (natsD (mays (isMay W) s e))) :: (f, .lst (E1.map prD)) :: (a, .lst pl) :: (L + 1 + 1, .cel nv) :: (L + 1, .cel (some (.ref kn))) :: bestL (isMay W) s e rk rl (bruteN rest W s e b)))
inductive InvO (H : Hp) (pl : List D) (kn t tw a L : Addr) (most : Int) (i : Nat) (nx : Option Nat) (E : List (Int × Int) × Nat) (m : Loc) (H' : Hp) : Prop
 | mk (m1 : m (Str.ofString "text") = some (.ref t)) (m2 : m (Str.ofString "widths") = some (.ref tw)) (m3 : m (Str.ofString "most") = some (.int most)) (f : Addr) (nv : Option D) (m4 : m (Str.ofString "found") = some (.ref f)) (m5 : m (Str.ofString "start") = some (.int (E.2 : Int))) (hlt : ∀ c, nx = some c → E.2 < c) (hlen : E.1.length ≤ 20 * i)
  (o : Own H H' [(f, .lst (E.1.map prD)), (a, .lst pl), (L + 1 + 1, .cel nv), (L + 1, .cel (some (.ref kn)))])
theorem law_even_ok {kn t tw : Addr} {W : List Str} {cs ws : List Int} {most : Int} {Q : D → Hp → Prop} (hk : H kn = some (.lst (W.map .str))) (ht : H t = some (.lst (cs.map .int))) (hw : H tw = some (.lst (ws.map .int))) (hl : ws.length = cs.length) (hWl : W.length = cs.length + 1) (hz : cs.length ≤ 15)
  (hmul : ∀ a b, IntMulOk (restI most ws (fun k => inV (cs.getD k 0)) a b) (restI most ws (fun k => inV (cs.getD k 0)) a b))
  (q : ∀ a L H', Own H H' ((a, .lst (((places cs.length (isMu W)).foldl (stL (restI most ws fun k => inV (cs.getD k 0)) (isMay W)) ([], 0)).1.map prD)) :: L) → Q (.ref a) H') : CalC (mkG w mg mb lo) (n + 6) H (.ref 592) [.ref kn, .ref t, .ref tw, .int most] Q := by
 have lW : (W.map D.str).length = cs.length + 1 := by rw [List.length_map, hWl]
 have lc : (cs.map D.int).length = cs.length := List.length_map ..
 obtain ⟨rest, hrest⟩ : ∃ r, r = restI most ws fun k => inV (cs.getD k 0) := ⟨_, rfl⟩
 refine CalC.fnC [Str.ofString "known", Str.ofString "text", Str.ofString "widths", Str.ofString "most"] (by ktr_unf) (by ktr_unf) (fun vs hv => ?_) (fun L hL => ?_) (by decide) ?hlk
 case hlk =>
  intro L p hp
  have e : p = (Str.ofString "number", L + 1 + 1) ∨ p = (Str.ofString "known", L + 1) := by simpa [cellsFrom] using hp
  rcases e with e | e <;> (subst e; exact ⟨rfl, rfl⟩)
 ·obtain ⟨a, b, c, d, rfl⟩ := len4 hv; rfl
 show Ex _ _ _ _ ((Hp.set H (L + 1) (.cel (some (.ref kn)))).set (L + 1 + 1) (.cel none)) _ _
 have o0 : Own H ((Hp.set H (L + 1) (.cel (some (.ref kn)))).set (L + 1 + 1) (.cel none)) [(L + 1 + 1, .cel none), (L + 1, .cel (some (.ref kn)))] := by
  refine ((Own.refl H).alloc (hL _ ?_)).alloc ((Hp.set_ne _ _ ?_).trans (hL _ ?_))
  ·exact Nat.le_succ _
  ·exact Nat.succ_ne_self _
  ·exact Nat.le_succ_of_le (Nat.le_succ _)
 revert o0
 generalize (Hp.set H (L + 1) (X.cel (some (.ref kn)))).set (L + 1 + 1) (X.cel none) = H0
 intro o0
 refine Ex.asgS (names := [Str.ofString "found", Str.ofString "start"]) (Ev.tup (EvL.cons (Ev.lst (EvL.nil ⟨Nat.le_of_ble_eq_true rfl, fun f hf _ => ?_⟩))))
 refine EvPL.to (EvPL.cons EvP.cint EvPL.nil) ⟨Nat.le_of_ble_eq_true rfl, _, rfl, rfl, rfl, rfl, rfl, rfl, ?_⟩
 have o1 := o0.alloc (x := .lst []) hf
 revert o1; generalize H0.set f _ = H1; intro o1
 clear o0 hf
 refine Ex.fresh fun hL1 => Ex.for' (by one_sign) (Ev.locs (Ev.comp (cl := [(Str.ofString "known", L + 1)]) (by one_sign) ?_ ?hcl))
 case hcl => rfl
 refine Ev.callTy (by ktr_unf) rfl (EvPL.to (EvPL.cons EvP.cint (EvPL.cons (EvP.bin (EvP.callB (id := "len") (by ktr_unf) rfl (EvPL.cons (EvP.loc rfl) EvPL.nil) (CalP.lenL (o1.sub _ _ ht) (by one_sign))) EvP.cint BinP.add) EvPL.nil)) (Cal.rng2 ?_))
 rw [lc]
 refine ⟨isNm, H1, rngL 1 ((cs.length : Int) + 1), _, Itr.rng (by one_sign) (by one_sign) (by one_sign) (by one_sign), rfl, hL1, by rw [rngL_len, sizeLine_eq]; one_sign, fun C hC hCL => ?_⟩
 refine Lc.inv (fun i m H' acc => H' = H1 ∧ acc = natsD (places i (isMu W))) ?_ ?_ ⟨rfl, rfl⟩
 ·rintro i d m H' acc hi ⟨rfl, rfl⟩
  obtain ⟨rfl, hli⟩ := rngL_inv hi
  have ek : (1 : Int) + i = ((i + 1 : Nat) : Int) := by one_sign
  rw [ek]
  refine ⟨trivial, Asg.name ?_⟩
  refine EvPB.to (b := isMu W (i + 1)) (EvPB.conv (EvPB.cmp (EvP.item (EvP.cell rfl (o1.get (.tail _ (.tail _ (.head _))))) (EvP.loc lset_self) (ItemP.lst (o1.sub _ _ hk) (by one_sign) (by rw [Int.toNat_natCast]; exact strs_at (by one_sign)) (by one_sign))) EvP.cstr CmpP.eq) rfl) ⟨fun hb => EvP.to (EvP.loc lset_self) ⟨rfl, ?_⟩, fun hb => ⟨rfl, ?_⟩⟩
  ·rw [places_succ, if_pos hb]; unfold natsD; rw [List.map_append]; rfl
  ·rw [places_succ, if_neg (by rw [hb]; decide), List.append_nil]
 rintro m H' acc ⟨rfl, rfl⟩
 refine ⟨trivial, fun a ha _ hL2 => ?_⟩
 have ei : (rngL 1 ((cs.length : Int) + 1)).length = cs.length := by rw [rngL_len]; one_sign
 rw [ei] at hL2 ⊢
 have o2 := o1.alloc (x := .lst (natsD (places cs.length (isMu W)))) ha
 revert o2 hL2; generalize H'.set a _ = H2; intro hL2 o2
 clear o1 hL1 hC hCL ha
 refine ⟨_, _, _, _, Itr.lst (o2.get (.head _)), rfl, hL2, ?_⟩
 refine Lp.inv (fun i m H' => InvO H (natsD (places cs.length (isMu W))) kn t tw a L most i (places cs.length (isMu W))[i]? (((places cs.length (isMu W)).take i).foldl (stL rest (isMay W)) ([], 0)) m H') ?_ ?_
  ⟨rfl, rfl, rfl, f, none, rfl, rfl, fun c hc => ?_, Nat.zero_le _, ?_⟩
 ·clear o2 hL2
  rintro i d m H3 hi ⟨m1, m2, m3, f, nv, m4, m5, hlt, hlen, o3⟩
  have hi' := hi
  unfold natsD at hi'
  obtain ⟨e, he, rfl⟩ := map_inv hi'
  obtain ⟨c1, c2, c3⟩ := places_le (List.mem_of_getElem? he)
  have hse := hlt e he
  have hpl := places_len cs.length (isMu W)
  have hil : i < (places cs.length (isMu W)).length := (List.getElem?_eq_some_iff.mp he).1
  have et : ((places cs.length (isMu W)).take (i + 1)).foldl (stL rest (isMay W)) ([], 0) = stL rest (isMay W) (((places cs.length (isMu W)).take i).foldl (stL rest (isMay W)) ([], 0)) e := by
   rw [List.take_add_one, he, List.foldl_append]; rfl
  have hnx : ∀ c, (places cs.length (isMu W))[i + 1]? = some c → e < c := fun c hc => by
   obtain ⟨h1, e1⟩ := List.getElem?_eq_some_iff.mp he
   obtain ⟨h2, e2⟩ := List.getElem?_eq_some_iff.mp hc
   have := List.pairwise_iff_getElem.mp (places_pw cs.length (isMu W)) i (i + 1) h1 h2 (by one_sign)
   rw [e1, e2] at this; exact this
  refine ⟨o3.get (.tail _ (.head _)), Asg.name ?_⟩
  clear hlt hi hi'
  revert m5 hse hlen o3 et
  generalize ((places cs.length (isMu W)).take i).foldl (stL rest (isMay W)) ([], 0) = E
  obtain ⟨E1, s⟩ := E
  intro m5 hlen o3 hse et
  replace m5 : m (Str.ofString "start") = some (.int (s : Int)) := m5
  replace hse : s < e := hse
  replace hlen : E1.length ≤ 20 * i := hlen
  replace o3 : Own H H3 [(f, .lst (E1.map prD)), (a, .lst (natsD (places cs.length (isMu W)))), (L + 1 + 1, .cel nv), (L + 1, .cel (some (.ref kn)))] := o3
  refine Ex.any fun Q1 q1 => ?_
  refine Ex.fresh fun hL3 => Ex.asgS (names := [Str.ofString "free", Str.ofString "best"]) (Ev.tup (EvL.cons (Ev.comp (cl := [(Str.ofString "known", L + 1)]) (by one_sign) ?_ ?hc2)))
  case hc2 => rfl
  refine Ev.callTy (by ktr_unf) rfl (EvPL.to (EvPL.cons (EvP.bin (EvP.loc (by ktr_rel)) EvP.cint BinP.add) (EvPL.cons (EvP.loc lset_self) EvPL.nil)) (Cal.rng2 ?_))
  refine ⟨isNm, H3, rngL ((s : Int) + 1) (e : Int), _, Itr.rng (by one_sign) (by one_sign) (by one_sign) (by one_sign), rfl, hL3, by rw [rngL_len, sizeLine_eq]; one_sign, fun C hC hCL => ?_⟩
  refine Lc.inv (fun j m' H' acc => H' = H3 ∧ acc = natsD (((List.range j).map (s + 1 + ·)).filter (isMay W))) ?_ ?_ ⟨rfl, rfl⟩
  ·rintro j d m' H' acc hj ⟨rfl, rfl⟩
   obtain ⟨rfl, hlj⟩ := rngL_inv hj
   have ek : (s : Int) + 1 + j = ((s + 1 + j : Nat) : Int) := by one_sign
   rw [ek]
   have er : ((List.range (j + 1)).map (s + 1 + ·)).filter (isMay W) = ((List.range j).map (s + 1 + ·)).filter (isMay W) ++ (if isMay W (s + 1 + j) = true then [s + 1 + j] else []) := by
    rw [List.range_succ, List.map_append, List.filter_append]
    congr 1
    by_cases q : isMay W (s + 1 + j) = true <;> simp [q]
   refine ⟨trivial, Asg.name ?_⟩
   refine EvPB.to (b := isMay W (s + 1 + j)) (EvPB.conv (EvPB.cmp (EvP.item (EvP.cell rfl (o3.get (.tail _ (.tail _ (.tail _ (.head _)))))) (EvP.loc lset_self) (ItemP.lst (o3.sub _ _ hk) (by one_sign) (by rw [Int.toNat_natCast]; exact strs_at (by one_sign)) (by one_sign))) EvP.cstr CmpP.eq) rfl) ⟨fun hb => EvP.to (EvP.loc lset_self) ⟨rfl, ?_⟩, fun hb => ⟨rfl, ?_⟩⟩
   ·rw [er, if_pos hb]; unfold natsD; rw [List.map_append]; rfl
   ·rw [er, if_neg (by rw [hb]; decide), List.append_nil]
  rintro m' H' acc ⟨rfl, rfl⟩
  refine ⟨trivial, fun fr hfr _ => EvPL.to (EvPL.cons EvP.cnone EvPL.nil) ⟨Nat.le_of_ble_eq_true rfl, _, rfl, rfl, rfl, rfl, rfl, rfl, ?_⟩⟩
  have ej : (rngL ((s : Int) + 1) (e : Int)).length = e - (s + 1) := by rw [rngL_len]; one_sign
  rw [ej]
  have o4 := o3.alloc (x := .lst (natsD (mays (isMay W) s e))) hfr
  show Ex _ _ _ _ (Hp.set H' fr (.lst (natsD (mays (isMay W) s e)))) _ _
  revert o4; generalize Hp.set H' fr _ = H4; intro o4
  clear o3 hfr hL3 hC hCL m'
  have hml := mays_len (isMay W) s e
  have hnl := natsD_len (mays (isMay W) s e)
  have pw : ∀ {k : Nat}, k ≤ (mays (isMay W) s e).length → 0 < 2 ^ k ∧ 2 ^ k ≤ 2 ^ 15 := fun {k} hk => ⟨Nat.pow_pos (by decide), Nat.pow_le_pow_right (by decide) (by one_sign)⟩
  have pwm := pw (Nat.le_refl _)
  refine Ex.forRng1 (hi := ((2 ^ (mays (isMay W) s e).length : Nat) : Int)) (by one_sign) (by ktr_unf) rfl (EvP.bin EvP.cint (EvP.callB (id := "len") (by ktr_unf) rfl (EvPL.cons (EvP.loc (by ktr_rel)) EvPL.nil) (CalP.lenL (o4.get (.head _)) (by one_sign))) (by rw [hnl]; exact BinP.pow2 (by one_sign))) (by one_sign) (by one_sign) rfl ?_
  refine Lp.inv (fun b m' H' => InvB H W rest E1 (natsD (places cs.length (isMu W))) kn t tw f a fr L most s e b m' H') ?_ ?_
   ⟨by ktr_rel, by ktr_rel, by ktr_rel, by ktr_rel, by ktr_rel, by ktr_rel, by ktr_rel, 0, 0, nv, by ktr_rel, o4⟩
  ·rintro b d m' H5 hb ⟨k1, k2, k3, k4, k5, k6, k7, rk, rl, nv', kb, o5⟩
   obtain ⟨rfl, hbl⟩ := rngL_inv hb
   rw [Int.zero_add]
   refine ⟨trivial, Asg.ncell rfl (o5.get (.tail _ (.tail _ (.tail _ (.head _))))) ?_⟩
   have o6 := o5.upd (y := .cel (some (.int (b : Int)))) 3 rfl
   revert o6; generalize H5.set (L + 1 + 1) _ = H6; intro o6
   replace o6 : Own H H6 ((fr, .lst (natsD (mays (isMay W) s e))) :: (f, .lst (E1.map prD)) :: (a, .lst (natsD (places cs.length (isMu W)))) :: (L + 1 + 1, .cel (some (.int (b : Int)))) :: (L + 1, .cel (some (.ref kn))) :: bestL (isMay W) s e rk rl (bruteN rest W s e b)) := o6
   clear o5 hb
   refine Ex.any fun Q2 q2 => ?_
   refine Ex.asg (Ev.bin (Ev.bin (Ev.lst (EvPL.to (EvPL.cons (EvP.loc k5) EvPL.nil) ⟨Nat.le_of_ble_eq_true rfl, fun g1 hg1 _ => ?_⟩))))
   have o7 := o6.alloc (x := .lst (natsD [s])) hg1
   show Ev _ _ _ _ (H6.set g1 (.lst (natsD [s]))) _ _
   revert o7; generalize H6.set g1 _ = H7; intro o7
   clear hg1
   refine Ev.fresh fun hL7 => Ev.comp (cl := [(Str.ofString "number", L + 1 + 1)]) (by one_sign) ?_ ?hc3
   case hc3 => rfl
   refine Ev.callTy (by ktr_unf) rfl (EvPL.to (EvPL.cons (EvP.loc k7) EvPL.nil) (Cal.enumL (LstAt.own (o7.get (.tail _ (.head _)))) fun it e' h1 h2 h3 => ⟨isTp, H7, enuL (natsD (mays (isMay W) s e)), _, Itr.enL h3 h1 h2, rfl, hL7, by rw [enuL_len, hnl, sizeLine_eq]; one_sign, fun C hC hCL => ?_⟩))
   refine Lc.inv (fun j m'' H' acc => H' = H7 ∧ acc = natsD (((List.range j).filter (bitB b)).map fun k => (mays (isMay W) s e).getD k 0)) ?_ ?_ ⟨rfl, rfl⟩
   ·rintro j d m'' H' acc hj ⟨rfl, rfl⟩
    obtain ⟨hj1, hj2, rfl⟩ := enuL_inv hj
    unfold natsD at hj2
    obtain ⟨x, hx, rfl⟩ := map_inv hj2
    have hjl : j < (mays (isMay W) s e).length := (List.getElem?_eq_some_iff.mp hx).1
    have pj := pw (Nat.le_of_lt hjl)
    have er : ((List.range (j + 1)).filter (bitB b)).map (fun k => (mays (isMay W) s e).getD k 0) = ((List.range j).filter (bitB b)).map (fun k => (mays (isMay W) s e).getD k 0) ++ (if bitB b j = true then [x] else []) := by
     rw [List.range_succ, List.filter_append, List.map_append]
     congr 1
     by_cases q : bitB b j = true
     ·simp [q, List.getD_eq_getElem?_getD, hx]
     ·simp [q]
    refine ⟨o7.get (.tail _ (.head _)), Asg.tup (AsgL.cons (Asg.name (AsgL.cons (Asg.name (AsgL.nil ?_)))))⟩
    refine EvPB.to (b := bitB b j) (EvPB.conv (EvPB.cmp (EvP.bin (EvP.bin (EvP.cell rfl (o7.get (.tail _ (.tail _ (.tail _ (.tail _ (.head _))))))) (EvP.bin EvP.cint (EvP.loc (by ktr_rel)) (BinP.pow2 (by one_sign))) (BinP.div (by one_sign) (PyProof.noPylong_small (by one_sign)))) EvP.cint (BinP.mod (by decide))) EvP.cint CmpP.eq) (bit_py b j)) ⟨fun hb => EvP.to (EvP.loc (by ktr_rel)) ⟨rfl, ?_⟩, fun hb => ⟨rfl, ?_⟩⟩
    ·rw [er, if_pos hb]; unfold natsD; rw [List.map_append]; rfl
    ·rw [er, if_neg (by rw [hb]; decide), List.append_nil]
   rintro m'' H' acc ⟨rfl, rfl⟩
   have hfl : (((List.range (mays (isMay W) s e).length).filter (bitB b)).map fun k => (mays (isMay W) s e).getD k 0).length ≤ 15 := by
    rw [List.length_map]
    have := List.length_filter_le (bitB b) (List.range (mays (isMay W) s e).length)
    rw [List.length_range] at this
    one_sign
   rw [enuL_len, hnl]
   revert hfl
   have ec := cuts_py (isMay W) s e b
   revert ec
   generalize (((List.range (mays (isMay W) s e).length).filter (bitB b)).map fun k => (mays (isMay W) s e).getD k 0) = fl
   intro ec hfl
   have hfn := natsD_len fl
   have ec2 : natsD [s] ++ natsD fl ++ [.int (e : Int)] = (((cutsN (isMay W) s e b).reverse).map (ptN (isMay W) s e)).map .int := by
    rw [← ec]; unfold natsD; simp
   refine ⟨o7.get (.tail _ (.head _)), fun g2 hg2 _ => Bin.addL (LstAt.own (Hp.keep hg2 (o7.get (.head _)))) (LstAt.own (Hp.set_self ..)) (by rw [natsD_len, hfn, sizeLine_eq]; simp; one_sign) fun g3 hg3 => Ev.lst (EvPL.to (EvPL.cons (EvP.loc k6) EvPL.nil) ⟨Nat.le_of_ble_eq_true rfl, fun g4 hg4 _ => Bin.addL (LstAt.own (Hp.keep hg4 (Hp.set_self ..))) (LstAt.own (Hp.set_self ..)) (by rw [List.length_append, natsD_len, hfn, sizeLine_eq]; simp; one_sign) fun cu hcu => Asg.name ?_⟩)⟩
   rw [ec2]
   have o8 := ((((o7.alloc hg2).alloc hg3).alloc hg4).alloc (x := .lst ((((cutsN (isMay W) s e b).reverse).map (ptN (isMay W) s e)).map .int)) hcu).weak (L' := (cu, .lst ((((cutsN (isMay W) s e b).reverse).map (ptN (isMay W) s e)).map .int)) :: _) (.cons_cons _ (.cons _ (.cons _ (.cons _ (.cons _ (.refl _))))))
   revert o8; generalize Hp.set _ cu _ = H8; intro o8
   clear o7 hg2 hg3 hg4 hcu hfl hfn ec ec2 hL7 o6
   have hcl : ((((cutsN (isMay W) s e b).reverse).map (ptN (isMay W) s e)).map D.int).length = (cutsN (isMay W) s e b).length := by simp
   have hc2 : 2 ≤ (cutsN (isMay W) s e b).length := by unfold cutsN cand; simp
   have hc3 := prs_le (isMay W) s e b
   have e1 : pickL ((((cutsN (isMay W) s e b).reverse).map (ptN (isMay W) s e)).map D.int) none (some (-1)) none = ((((cutsN (isMay W) s e b).reverse).map (ptN (isMay W) s e)).map D.int).dropLast := pickL_butLast _
   have e2 : pickL ((((cutsN (isMay W) s e b).reverse).map (ptN (isMay W) s e)).map D.int) (some 1) none none = ((((cutsN (isMay W) s e b).reverse).map (ptN (isMay W) s e)).map D.int).tail := by rw [pickL_from _ (by decide)]; exact List.drop_one
   have e3 := lines_py (ptN (isMay W) s e) (cutsN (isMay W) s e b)
   have e4 : pickL ((((cutsN (isMay W) s e b).reverse).map (ptN (isMay W) s e)).map D.int) (some (-2)) none (some (-1)) = ((cand (mays (isMay W) s e).length b).map (ptN (isMay W) s e)).map D.int := by rw [pickL_rev2]; exact rev_py _ _ _
   refine Ex.asg (Ev.listZip (by ktr_unf) rfl (by ktr_unf) rfl (Ev.slc (EvP.to (EvP.loc lset_self) ⟨cu, _, _, _, _, rfl, LstAt.own (o8.get (.head _)), .no, .yes (EvP.neg EvP.cint), .no, by simp, by rw [hcl, sizeLine_eq]; one_sign, fun z1 hz1 => Ev.slc (EvP.to (EvP.loc lset_self) ⟨cu, _, _, _, _, rfl, LstAt.own (Hp.keep hz1 (o8.get (.head _))), .yes EvP.cint, .no, .no, by simp, by rw [hcl, sizeLine_eq]; one_sign, fun z2 hz2 => ⟨z1, z2, _, _, rfl, rfl, Hp.keep hz2 (Hp.set_self ..), Hp.set_self .., by rw [e1, e2, List.length_dropLast, List.length_tail], by rw [e1, List.length_dropLast, hcl]; one_sign, by rw [e1, List.length_dropLast, hcl]; one_sign, fun li hli => Asg.name ?_⟩⟩)⟩)))
   rw [e1] at hz2
   rw [e1, e2] at hli
   rw [e1, e2, e3]
   have o9 := (((o8.alloc hz1).alloc hz2).alloc (x := .lst ((mp2 (ptN (isMay W) s e) (prs (cutsN (isMay W) s e b))).map prD)) hli).weak (L' := (li, .lst ((mp2 (ptN (isMay W) s e) (prs (cutsN (isMay W) s e b))).map prD)) :: _) (.cons_cons _ (.cons _ (.cons _ (.refl _))))
   revert o9; generalize Hp.set _ li _ = H9; intro o9
   clear o8 hz1 hz2 hli e1 e2 e3
   have pl : (mp2 (ptN (isMay W) s e) (prs (cutsN (isMay W) s e b))).length = (prs (cutsN (isMay W) s e b)).length := by unfold mp2; rw [List.length_map]
   have pl2 := prs_len (cutsN (isMay W) s e b)
   have eW : lwTo (restI most ws fun k => inV (cs.getD k 0)) (mayI W) (mp2 (ptN (isMay W) s e) (prs (cutsN (isMay W) s e b))) (mp2 (ptN (isMay W) s e) (prs (cutsN (isMay W) s e b))).length = WN rest W s e b := by rw [pl, ← hrest]; rfl
   refine Ex.asg (EvP.to (EvP.callD (f := 587) (by ktr_unf) (EvP.glob (by ktr_unf) IsTop.ref) (EvPL.cons (EvP.loc lset_self) (EvPL.cons (EvP.cell rfl (o9.get (.tail _ (.tail _ (.tail _ (.tail _ (.tail _ (.tail _ (.head _)))))))))  (EvPL.cons (EvP.loc (by ktr_rel)) (EvPL.cons (EvP.loc (by ktr_rel)) (EvPL.cons (EvP.loc (by ktr_rel)) EvPL.nil))))) ((law_worth_ok (n := n) (most := most) (o9.get (.head _)) (o9.sub _ _ hk) (o9.sub _ _ ht) (o9.sub _ _ hw) hl hWl (by one_sign) (by one_sign) (fun q hq => let ⟨x, y, u1, u2, u3⟩ := lines_ok (isMay W) hse q hq; ⟨x, y, u1, u2, Nat.le_trans u3 c2⟩) hmul).le (by one_sign))) (Asg.name ?_))
   rw [eW]
   have bs : bruteN rest W s e (b + 1) = match WN rest W s e b with
    | none => bruteN rest W s e b
    | some x => match bruteN rest W s e b with
     | none => some (x, b)
     | some y => bif klt x ((cand (mays (isMay W) s e).length b).map (ptN (isMay W) s e)) y.1 ((cand (mays (isMay W) s e).length y.2).map (ptN (isMay W) s e)) then some (x, b) else some y := rfl
   clear eW pl pl2 hc2
   have hsl : ∀ {r : Nat}, ((((cutsN (isMay W) s e b).reverse).map (ptN (isMay W) s e)).map D.int).length ≤ sizeLine := by rw [hcl, sizeLine_eq]; one_sign
   obtain ⟨v, hv⟩ : ∃ v, v = match WN rest W s e b with
    | none => false
    | some x => match bruteN rest W s e b with
     | none => true
     | some y => klt x ((cand (mays (isMay W) s e).length b).map (ptN (isMay W) s e)) y.1 ((cand (mays (isMay W) s e).length y.2).map (ptN (isMay W) s e)) := ⟨_, rfl⟩
   refine Ex.iteP (x := v) ?test (fun hx => ?body) (fun hx => Ex.nil (Ex.nil (q2 _ _ _ ?els)))
   case els =>
    have eb : bruteN rest W s e (b + 1) = bruteN rest W s e b := by
     rw [bs]
     cases qW : WN rest W s e b with
     | none => rfl
     | some x =>
      cases qB : bruteN rest W s e b with
      | none => rw [qW, qB, hx] at hv; cases hv
      | some y =>
       rw [qW, qB, hx] at hv
       have hv : false = klt x ((cand (mays (isMay W) s e).length b).map (ptN (isMay W) s e)) y.1 ((cand (mays (isMay W) s e).length y.2).map (ptN (isMay W) s e)) := hv
       show (bif klt x ((cand (mays (isMay W) s e).length b).map (ptN (isMay W) s e)) y.1 ((cand (mays (isMay W) s e).length y.2).map (ptN (isMay W) s e)) then some (x, b) else some y) = _
       rw [← hv]; rfl
    refine ⟨by ktr_rel, by ktr_rel, by ktr_rel, by ktr_rel, by ktr_rel, by ktr_rel, by ktr_rel, rk, rl, some (.int (b : Int)), ?_, ?_⟩
    ·rw [eb]; ktr_rel
    ·rw [eb]; exact o9.weak (.cons _ (.cons _ (.refl _)))
   case test =>
    cases qW : WN rest W s e b with
    | none =>
     rw [qW] at hv
     subst hv
     exact EvPB.conv (EvPB.and (b := false) (EvPB.cmp (EvP.loc lset_self) EvP.cnone CmpP.isnot) (fun h => by cases h)) rfl
    | some x =>
     cases qB : bruteN rest W s e b with
     | none =>
      rw [qW, qB] at hv
      subst hv
      rw [qB] at kb
      exact EvPB.conv (EvPB.and (EvPB.cmp (EvP.loc lset_self) EvP.cnone CmpP.isnot) (fun _ => EvPB.and1 (EvPB.or (b := false) (EvPB.cmp (EvP.loc (by ktr_rel)) EvP.cnone CmpP.is) (fun h => by cases h)))) rfl
     | some y =>
      rw [qW, qB] at hv
      rw [qB] at kb o9
      refine EvPB.conv (EvPB.and (EvPB.cmp (EvP.loc lset_self) EvP.cnone CmpP.isnot) (fun _ => EvPB.and1 (EvPB.or (EvPB.cmp (EvP.loc (by ktr_rel)) EvP.cnone CmpP.is) (fun _ => EvPB.or1 (a := v) ?lt)))) rfl
      refine EvB.p (EvB.cmp (Ev.tup (EvL.cons (EvP.to (EvP.loc lset_self) (EvL.cons (Ev.slc (EvP.to (EvP.loc (by ktr_rel)) ⟨cu, _, _, _, _, rfl, LstAt.own (o9.get (.tail _ (.head _))), .yes (EvP.neg EvP.cint), .no, .yes (EvP.neg EvP.cint), by simp, hsl (r := 0), fun r1 hr1 => EvL.nil ⟨Nat.le_of_ble_eq_true rfl, ?_⟩⟩)))))))
      rw [e4]
      refine EvP.to (EvP.item (EvP.loc (by ktr_rel)) EvP.cint (ItemP.tup (j := 0) rfl rfl)) (Cmp.ltTL (Hp.set_self ..) (Hp.keep hr1 (o9.get (.tail _ (.tail _ (.tail _ (.tail _ (.tail _ (.tail _ (.tail _ (.head _)))))))))) (Tru.bool ⟨Sub.set hr1, ?_⟩) (by one_sign))
      rw [hv]; rfl
   case body =>
    obtain ⟨x, qW, eb⟩ : ∃ x, WN rest W s e b = some x ∧ bruteN rest W s e (b + 1) = some (x, b) := by
     cases qW : WN rest W s e b with
     | none => rw [qW, hx] at hv; cases hv
     | some x =>
      refine ⟨x, rfl, ?_⟩
      rw [bs, qW]
      cases qB : bruteN rest W s e b with
      | none => rfl
      | some y =>
       rw [qW, qB, hx] at hv
       have hv : true = klt x ((cand (mays (isMay W) s e).length b).map (ptN (isMay W) s e)) y.1 ((cand (mays (isMay W) s e).length y.2).map (ptN (isMay W) s e)) := hv
       show (bif klt x ((cand (mays (isMay W) s e).length b).map (ptN (isMay W) s e)) y.1 ((cand (mays (isMay W) s e).length y.2).map (ptN (isMay W) s e)) then some (x, b) else some y) = _
       rw [← hv]; rfl
    rw [qW]
    refine Ex.asg (Ev.tup (EvL.cons (Ev.tup (EvL.cons (EvP.to (EvP.loc lset_self) ?_)))))
    refine EvL.cons (Ev.slc (EvP.to (EvP.loc (d := .ref cu) (by ktr_rel)) ⟨cu, _, _, _, _, rfl, LstAt.own (o9.get (.tail _ (.head _))), .yes (EvP.neg EvP.cint), .no, .yes (EvP.neg EvP.cint), by simp, hsl (r := 0), fun r1 hr1 => ?_⟩))
    refine EvL.nil ⟨Nat.le_of_ble_eq_true rfl, ?_⟩
    refine EvL.cons (EvP.to (EvP.loc (d := .ref li) (by ktr_rel)) ?_)
    refine EvL.nil ⟨Nat.le_of_ble_eq_true rfl, Asg.name (Ex.nil (Ex.nil (q2 _ _ _ ?_)))⟩
    rw [e4]
    have o10 := o9.alloc (x := .lst (((cand (mays (isMay W) s e).length b).map (ptN (isMay W) s e)).map D.int)) hr1
    refine ⟨by ktr_rel, by ktr_rel, by ktr_rel, by ktr_rel, by ktr_rel, by ktr_rel, by ktr_rel, r1, li, some (.int (b : Int)), ?_, ?_⟩
    ·rw [eb]; exact lset_self
    ·rw [eb]
     have o11 := o10.weak (L' := [(r1, .lst (((cand (mays (isMay W) s e).length b).map (ptN (isMay W) s e)).map D.int)), (li, .lst ((mp2 (ptN (isMay W) s e) (prs (cutsN (isMay W) s e b))).map prD))] ++ [(fr, .lst (natsD (mays (isMay W) s e))), (f, .lst (E1.map prD)), (a, .lst (natsD (places cs.length (isMu W)))), (L + 1 + 1, .cel (some (.int (b : Int)))), (L + 1, .cel (some (.ref kn)))]) (.cons_cons _ (.cons_cons _ (.cons _ (.cons_cons _ (.cons_cons _ (.cons_cons _ (.cons_cons _ (.cons_cons _ (List.nil_sublist _)))))))))
     exact o11.perm List.perm_append_comm
  ·rintro m' H5 ⟨k1, k2, k3, k4, k5, k6, k7, rk, rl, nv', kb, o5⟩
   have en : (rngL 0 ((2 ^ (mays (isMay W) s e).length : Nat) : Int)).length = 2 ^ (mays (isMay W) s e).length := by rw [rngL_len]; one_sign
   rw [en] at kb o5
   obtain ⟨b, hb1, hb2⟩ := bruteN_end (rest := rest) (W := W) hse
   rw [hb1] at kb o5
   have hd := dpPart_len rest (prt (isMay W) s e)
   have hpl2 := prt_len (isMay W) s e
   have hn1 : ((mp2 (ptN (isMay W) s e) (prs (cutsN (isMay W) s e b.2))).map prD).length ≤ 20 := by rw [List.length_map, hb2]; one_sign
   refine ⟨trivial, ?_⟩
   refine Ex.asgS (names := [Str.ofString "found", Str.ofString "start"]) (Ev.tup (EvL.cons (Ev.bin (EvP.to (EvP.loc k4) (EvP.to (EvP.item (EvP.loc kb) EvP.cint (ItemP.tup (j := 1) rfl rfl)) (Bin.addL (LstAt.own (o5.get (.tail _ (.head _)))) (LstAt.own (o5.get (.tail _ (.tail _ (.tail _ (.tail _ (.tail _ (.tail _ (.head _))))))))) (by rw [List.length_map, sizeLine_eq]; one_sign) fun f2 hf2 => EvPL.to (EvPL.cons (EvP.loc k6) EvPL.nil) ⟨Nat.le_of_ble_eq_true rfl, _, rfl, rfl, rfl, rfl, rfl, rfl, Ex.nil ?_⟩))))))
   have ef : E1.map prD ++ (mp2 (ptN (isMay W) s e) (prs (cutsN (isMay W) s e b.2))).map prD = (stL rest (isMay W) (E1, s) e).1.map prD := by
    rw [hb2, ← List.map_append]; rfl
   rw [ef]
   have o6 := (o5.alloc (x := .lst ((stL rest (isMay W) (E1, s) e).1.map prD)) hf2).weak (L' := [(f2, .lst ((stL rest (isMay W) (E1, s) e).1.map prD)), (a, .lst (natsD (places cs.length (isMu W)))), (L + 1 + 1, .cel nv'), (L + 1, .cel (some (.ref kn)))]) (.cons_cons _ (.cons _ (.cons _ (.cons_cons _ (.cons_cons _ (.cons_cons _ (List.nil_sublist _)))))))
   refine q1 _ _ _ ⟨by ktr_rel, by ktr_rel, by ktr_rel, f2, nv', by ktr_rel, ?_, ?_, ?_, ?_⟩
   ·rw [et]; show _ = some (D.int ((e : Nat) : Int)); ktr_rel
   ·rw [et]; exact hnx
   ·rw [et]; show (E1 ++ dpPart rest (prt (isMay W) s e)).length ≤ _; rw [List.length_append]; one_sign
   ·rw [et]; exact o6
 ·rintro m H3 ⟨m1, m2, m3, f, nv, m4, m5, hlt, hlen, o3⟩
  refine ⟨o3.get (.tail _ (.head _)), Ex.ret (EvP.to (EvP.loc m4) (q f [(a, .lst (natsD (places cs.length (isMu W)))), (L + 1 + 1, .cel nv), (L + 1, .cel (some (.ref kn)))] _ ?_))⟩
  rw [natsD_len, List.take_length, hrest] at o3
  exact o3
 ·exact (places_le (List.mem_of_getElem? hc)).1
 ·exact o2.perm (List.Perm.swap ..)
end
noncomputable def lb03 : Int → Str := lsW (dbK ops03 6) (Str.ofString "lb") (Str.ofString "XX")
noncomputable def gc03 : Int → Str := lsW (dbK ops03 6) (Str.ofString "gc") (Str.ofString "Cn")
noncomputable def ea03 : Int → Str := lsW (dbK ops03 6) (Str.ofString "ea") (Str.ofString "N")
theorem tab03 : ∀ k : Fin 8, lb03 (sgn k.val) = cls k.val ∧ okV (cls k.val) = true ∧ 0 ≤ sgn k.val ∧ (sgn k.val == 9676) = false ∧ bareB (cls k.val) = inV (sgn k.val) := by decide +kernel
noncomputable def c6 (k : Nat) : Str := Str.ofString (["AL", "ID", "SP", "LF", "GL"].getD k "")
theorem cls_c6 : ∀ p : Fin 8, (List.range 5).any (fun k => cls p.val == c6 k) = true := by decide +kernel
noncomputable def nots6 (x : Str) : Bool := !is x "QU" && !is x "ZW" && !is x "OP" && !is x "IS" && !is x "CP" && !inl x ["CL", "CP"] && !is x "B2" && !is x "HL"
theorem nots6_ok : ((List.range 6).all fun k => nots6 (c6 k)) = true := by decide +kernel
theorem nots6_at {x : Str} (h : ∃ k, k < 6 ∧ x = c6 k) : is x "QU" = false ∧ is x "ZW" = false ∧ is x "OP" = false ∧ is x "IS" = false ∧ is x "CP" = false ∧ inl x ["CL", "CP"] = false ∧ is x "B2" = false ∧ is x "HL" = false := by
 obtain ⟨k, hk, rfl⟩ := h
 have := List.all_eq_true.mp nots6_ok k (List.mem_range.mpr hk)
 unfold nots6 at this
 simp only [Bool.and_eq_true, Bool.not_eq_true'] at this
 obtain ⟨⟨⟨⟨⟨⟨⟨a, b⟩, c⟩, d⟩, e⟩, f⟩, g⟩, h⟩ := this
 exact ⟨a, b, c, d, e, f, g, h⟩
noncomputable def num3 (a b : Str) : D := bif numsT.any (fun e => deq e (.tup [.str a, .str b])) then no "LB25" else .none
noncomputable def v3 (a b : Str) : D := vOr (vOr (vOr (vOr (vOr (rHard a b) (vOr (rSpaces b ⟨#[]⟩ false) (rGlue a b))) (vOr (rClosing a b ⟨#[]⟩ (Str.ofString "pairs")) (vOr .none (rOver a b ⟨#[]⟩)))) (vOr (rSigns a b ⟨#[]⟩ (Str.ofString "strict")) (vOr (rLetters a b) (num3 a b)))) (vOr (rSyll a b) (vOr .none .none))) (vOr (rPict a b false) (may "LB31"))
theorem chk3 : ((List.range 5).all fun a => (List.range 5).all fun b => pairT (plD (c6 a) (c6 b)) && (deq (fstD (v3 (c6 a) (c6 b))) (fstD (plD (c6 a) (c6 b))) && deq (sndD (v3 (c6 a) (c6 b))) (sndD (plD (c6 a) (c6 b))))) = true := by decide +kernel
theorem deq_str3 {x : Str} {e : D} (h : deq (.str x) e = true) : e = .str x := by
 cases e <;> first | (cases h; done) | skip
 have : (x == _) = true := h
 rw [beq_iff_eq.mp this]
section
variable {ps : List Nat}
noncomputable def V03 (ps : List Nat) : Vw := mkV lb03 (ps.map sgn) (Str.ofString "strict") (Str.ofString "pairs") false
theorem V03_len : (V03 ps).us.length = ps.length := by unfold V03; rw [mkV_len, List.length_map]
theorem sgn_at {k : Nat} (hk : k < ps.length) : (ps.map sgn)[k]? = some (sgn (ps.getD k 0)) := by
 rw [List.getElem?_map, List.getD_eq_getElem?_getD, List.getElem?_eq_getElem hk]; rfl
theorem p8_at (hp : ∀ p ∈ ps, p < 8) {k : Nat} (hk : k < ps.length) : ps.getD k 0 < 8 := by
 rw [List.getD_eq_getElem?_getD, List.getElem?_eq_getElem hk]; exact hp _ (List.getElem_mem _)
theorem V03_W (hp : ∀ p ∈ ps, p < 8) {p : Int} (h0 : 0 ≤ p) (h1 : p < ps.length) : (V03 ps).W p = cls (ps.getD p.toNat 0) := by
 have hk : p.toNat < ps.length := by one_sign
 unfold V03
 rw [mkV_W h0 (sgn_at hk)]
 exact (tab03 ⟨_, p8_at hp hk⟩).1
theorem cls5 {p : Nat} (h : p < 8) : ∃ k, k < 5 ∧ cls p = c6 k := by
 obtain ⟨k, hk, e⟩ := List.any_eq_true.mp (cls_c6 ⟨p, h⟩)
 exact ⟨k, List.mem_range.mp hk, beq_iff_eq.mp e⟩
theorem V03_6 (hp : ∀ p ∈ ps, p < 8) (p : Int) : ∃ k, k < 6 ∧ (V03 ps).W p = c6 k := by
 by_cases q : 0 ≤ p ∧ p < ps.length
 ·rw [V03_W hp q.1 q.2]
  obtain ⟨k, hk, e⟩ := cls5 (p8_at hp (show p.toNat < ps.length by one_sign))
  exact ⟨k, by one_sign, e⟩
 ·exact ⟨5, by one_sign, (W_out (by rw [V03_len]; exact q)).trans (by decide +kernel)⟩
theorem V03_C {p : Int} (h0 : 0 ≤ p) (h1 : p < ps.length) : (V03 ps).C p = sgn (ps.getD p.toNat 0) := by
 have hk : p.toNat < ps.length := by one_sign
 unfold Vw.C V03 mkV
 simp only [List.getElem?_mapIdx, sgn_at hk]; rfl
theorem V03_J (p : Int) : (V03 ps).J p = false := by
 unfold Vw.J V03 mkV
 simp only [List.getElem?_mapIdx]
 cases (ps.map sgn)[p.toNat]? <;> rfl
theorem c6_ak : ((List.range 5).all fun k => !inl (c6 k) ["AK", "AS"] && !inl (c6 k) ["AK"]) = true := by decide +kernel
theorem V03_ak (hp : ∀ p ∈ ps, p < 8) (p : Int) : (V03 ps).ak p ["AK", "AS"] = false ∧ (V03 ps).ak p ["AK"] = false := by
 unfold Vw.ak Vw.N
 rw [V03_len]
 by_cases q : 0 ≤ p ∧ p < ps.length
 ·have e : (!(decide (0 ≤ p) && decide (p < (ps.length : Int)))) = false := by simp [q]
  have h8 := p8_at hp (show p.toNat < ps.length by one_sign)
  obtain ⟨k, hk, ek⟩ := cls5 h8
  have a := List.all_eq_true.mp c6_ak k (List.mem_range.mpr hk)
  simp only [Bool.and_eq_true, Bool.not_eq_true'] at a
  rw [e, V03_W hp q.1 q.2, V03_C q.1 q.2, ek, a.1, a.2, (tab03 ⟨_, h8⟩).2.2.2.1]
  exact ⟨rfl, rfl⟩
 ·have e : (!(decide (0 ≤ p) && decide (p < (ps.length : Int)))) = true := by
   rw [Bool.not_eq_true', Bool.and_eq_false_iff]; simp; one_sign
  rw [e]; exact ⟨rfl, rfl⟩
theorem verdict03 (hp : ∀ p ∈ ps, p < 8) {i : Nat} (h0 : 1 ≤ i) (h1 : i < ps.length) : verdict (V03 ps) gc03 ea03 i = plD (cls (ps.getD (i - 1) 0)) (cls (ps.getD i 0)) := by
 have ea : (V03 ps).W ((i : Int) - 1) = cls (ps.getD (i - 1) 0) := by rw [V03_W hp (by one_sign) (by one_sign), toNat_p1]
 have eb : (V03 ps).W (i : Int) = cls (ps.getD i 0) := by rw [V03_W hp (by one_sign) (by one_sign), Int.toNat_natCast]
 have q6 : ∀ p, is ((V03 ps).W p) "QU" = false := fun p => (nots6_at (V03_6 hp p)).1
 have na := nots6_at (V03_6 hp ((i : Int) - 1))
 have nb := nots6_at (V03_6 hp (i : Int))
 have ns := nots6_at (V03_6 hp ((V03 ps).S ((i : Int) - 1)))
 have nz := nots6_at (V03_6 hp ((i : Int) - 2))
 have hv := verdict_pair (V03 ps) gc03 ea03 (i : Int)
 have key : verdict (V03 ps) gc03 ea03 i = v3 ((V03 ps).W ((i : Int) - 1)) ((V03 ps).W (i : Int)) := by
  have eQ : rQuotes (V03 ps) gc03 (i : Int) = .none := by
   unfold rQuotes Vw.Q
   simp only [q6, Bool.false_and, cond_false]
  have eA : rAksaras (V03 ps) (i : Int) = .none := by
   unfold rAksaras
   simp only [(V03_ak hp _).1, (V03_ak hp _).2, Bool.and_false, Bool.false_and, Bool.or_false, cond_false]
  have eB : rBrackets (V03 ps) ea03 (i : Int) = .none := by
   unfold rBrackets
   simp only [na.2.2.2.1, na.2.2.2.2.1, nb.2.2.1, Bool.and_false, Bool.false_and, cond_false]
  have eN : rNumbers (V03 ps) (i : Int) = num3 ((V03 ps).W ((i : Int) - 1)) ((V03 ps).W (i : Int)) := by
   unfold rNumbers num3
   show (bif is (Str.ofString "pairs") "expression" then _ else _) = _
   rw [show is (Str.ofString "pairs") "expression" = false by decide +kernel]; rfl
  have eS : ∀ b, rSpaces b ((V03 ps).W ((V03 ps).S ((i : Int) - 1))) false = rSpaces b ⟨#[]⟩ false := fun b => by
   unfold rSpaces; rw [ns.2.1, show is ⟨#[]⟩ "ZW" = false by decide +kernel]
  have eC : ∀ a b, rClosing a b ((V03 ps).W ((V03 ps).S ((i : Int) - 1))) (Str.ofString "pairs") = rClosing a b ⟨#[]⟩ (Str.ofString "pairs") := fun a b => by
   unfold rClosing; rw [ns.2.2.1, show is ⟨#[]⟩ "OP" = false by decide +kernel]
  have eO : ∀ a b, rOver a b ((V03 ps).W ((V03 ps).S ((i : Int) - 1))) = rOver a b ⟨#[]⟩ := fun a b => by
   unfold rOver; rw [ns.2.2.2.2.2.1, ns.2.2.2.2.2.2.1, show inl ⟨#[]⟩ ["CL", "CP"] = false by decide +kernel, show is ⟨#[]⟩ "B2" = false by decide +kernel]
  have eZ : ∀ a b, rSigns a b ((V03 ps).W ((i : Int) - 2)) (Str.ofString "strict") = rSigns a b ⟨#[]⟩ (Str.ofString "strict") := fun a b => by
   unfold rSigns; rw [nz.2.2.2.2.2.2.2, show is ⟨#[]⟩ "HL" = false by decide +kernel]
  unfold verdict v3
  simp only
  rw [eQ, eA, eB, eN, V03_J, eS]
  show vOr (vOr (vOr (vOr (vOr (rHard _ _) (vOr _ (rGlue _ _))) (vOr (rClosing _ _ _ (Str.ofString "pairs")) (vOr .none (rOver _ _ _)))) (vOr (rSigns _ _ _ (Str.ofString "strict")) (vOr (rLetters _ _) (num3 _ _)))) (vOr (rSyll _ _) (vOr .none .none))) (vOr (rPict _ _ false) (may "LB31")) = _
  rw [eC, eO, eZ]
 rw [key, ea, eb]
 rw [key, ea, eb] at hv
 obtain ⟨a, ha, ea'⟩ := cls5 (p8_at hp (show i - 1 < ps.length by one_sign))
 obtain ⟨b, hb, eb'⟩ := cls5 (p8_at hp h1)
 rw [ea', eb'] at hv ⊢
 have c := List.all_eq_true.mp (List.all_eq_true.mp chk3 a (List.mem_range.mpr ha)) b (List.mem_range.mpr hb)
 simp only [Bool.and_eq_true] at c
 obtain ⟨c1, c2, c3⟩ := c
 obtain ⟨x, y, e1⟩ := pair_of hv
 obtain ⟨u, v, e2⟩ := pair_of c1
 rw [e1, e2] at c2 c3
 rw [e1, e2]
 have d1 := deq_str3 (x := x) (e := .str u) c2
 have d2 := deq_str3 (x := y) (e := .str v) c3
 rw [d1, d2]
noncomputable def strOf : D → Str
 | .str s => s
 | _ => ⟨#[]⟩
noncomputable def wrd (ps : List Nat) (i : Nat) : Str := strOf (fstD (placeD ps i))
noncomputable def rsn (ps : List Nat) (i : Nat) : Str := strOf (sndD (placeD ps i))
theorem plD_pair (a b : Str) : pairT (plD a b) = true := by
 have := rows_ne a b
 rw [List.getElem?_map] at this
 obtain ⟨r, _, e⟩ := Option.map_eq_some_iff.mp this
 rw [← e]; rfl
theorem placeD_eq (ps : List Nat) (i : Nat) : placeD ps i = .tup [.str (wrd ps i), .str (rsn ps i)] := by
 have : pairT (placeD ps i) = true := by
  unfold placeD
  split
  ·rfl
  ·split
   ·rfl
   ·exact plD_pair _ _
 obtain ⟨x, y, e⟩ := pair_of this
 unfold wrd rsn
 rw [e]; rfl
noncomputable def wds (ps : List Nat) : List Str := (List.range (ps.length + 1)).map (wrd ps)
noncomputable def rsns (ps : List Nat) : List Str := (List.range (ps.length + 1)).map (rsn ps)
theorem wds_len : (wds ps).length = ps.length + 1 := by unfold wds; rw [List.length_map, List.length_range]
theorem rsns_len : (rsns ps).length = ps.length + 1 := by unfold rsns; rw [List.length_map, List.length_range]
theorem verL03 (hp : ∀ p ∈ ps, p < 8) (h1 : 1 ≤ ps.length) : verL (V03 ps) gc03 ea03 ((ps.map sgn).length - 1) = (List.range (ps.length + 1)).map (placeD ps) := by
 unfold verL
 rw [V03_len, List.length_map]
 refine List.map_congr_left fun k hk => ?_
 have hk := List.mem_range.mp hk
 unfold placeD
 by_cases z : k = 0
 ·rw [if_pos z, if_pos z]
 ·rw [if_neg z, if_neg z]
  by_cases y : k = ps.length
  ·rw [if_pos y, if_pos y]
  ·rw [if_neg y, if_neg y, if_pos (by one_sign)]
   exact verdict03 hp (by one_sign) (by one_sign)
theorem opps03 (hp : ∀ p ∈ ps, p < 8) (h1 : 1 ≤ ps.length) : (verL (V03 ps) gc03 ea03 ((ps.map sgn).length - 1)).map fstD = (wds ps).map .str := by
 rw [verL03 hp h1]
 unfold wds
 rw [List.map_map, List.map_map]
 exact List.map_congr_left fun k _ => by show fstD (placeD ps k) = .str (wrd ps k); rw [placeD_eq]; rfl
theorem names03 (hp : ∀ p ∈ ps, p < 8) (h1 : 1 ≤ ps.length) : (verL (V03 ps) gc03 ea03 ((ps.map sgn).length - 1)).map sndD = (rsns ps).map .str := by
 rw [verL03 hp h1]
 unfold rsns
 rw [List.map_map, List.map_map]
 exact List.map_congr_left fun k _ => by show sndD (placeD ps k) = .str (rsn ps k); rw [placeD_eq]; rfl
theorem codes03 (hp : ∀ p ∈ ps, p < 8) : ∀ c ∈ ps.map sgn, 0 ≤ c ∧ okV (lb03 c) = true := fun c hc => by
 obtain ⟨p, h, rfl⟩ := List.mem_map.mp hc
 have t := tab03 ⟨p, hp p h⟩
 exact ⟨t.2.2.1, by rw [t.1]; exact t.2.1⟩
theorem hang03 (hp : ∀ p ∈ ps, p < 8) : (fun k => (((ps.map sgn).map fun c => bareB (lb03 c)).getD k false)) = fun k => inV ((ps.map sgn).getD k 0) := by
 funext k
 by_cases h : k < ps.length
 ·have t := tab03 ⟨_, p8_at hp h⟩
  rw [List.getD_eq_getElem?_getD, List.getD_eq_getElem?_getD, List.getElem?_map, sgn_at h]
  show bareB (lb03 (sgn _)) = inV (sgn _)
  rw [t.1]; exact t.2.2.2.2
 ·rw [List.getD_eq_getElem?_getD, List.getD_eq_getElem?_getD, List.getElem?_eq_none (by simp; one_sign), List.getElem?_eq_none (by simp; one_sign)]
  decide +kernel
theorem wrd3 : ((List.range 5).all fun a => (List.range 5).all fun b => [ss "no", ss "may", ss "must"].any fun e => deq (fstD (plD (c6 a) (c6 b))) e) = true := by decide +kernel
theorem wrd_in (hp : ∀ p ∈ ps, p < 8) {k : Nat} (hk : k ≤ ps.length) : wrd ps k = Str.ofString "no" ∨ wrd ps k = Str.ofString "may" ∨ wrd ps k = Str.ofString "must" := by
 unfold wrd placeD
 by_cases z : k = 0
 ·rw [if_pos z]; exact .inl rfl
 ·rw [if_neg z]
  by_cases y : k = ps.length
  ·rw [if_pos y]; exact .inr (.inr rfl)
  ·rw [if_neg y]
   obtain ⟨a, ha, ea⟩ := cls5 (p8_at hp (show k - 1 < ps.length by one_sign))
   obtain ⟨b, hb, eb⟩ := cls5 (p8_at hp (show k < ps.length by one_sign))
   rw [ea, eb]
   have c := List.all_eq_true.mp (List.all_eq_true.mp wrd3 a (List.mem_range.mpr ha)) b (List.mem_range.mpr hb)
   obtain ⟨x, y, e⟩ := pair_of (plD_pair (c6 a) (c6 b))
   rw [e] at c ⊢
   simp only [List.any_cons, List.any_nil, Bool.or_false, Bool.or_eq_true] at c
   rcases c with c | c | c
   ·exact .inl (D.str.inj (deq_str3 (x := x) c)).symm
   ·exact .inr (.inl (D.str.inj (deq_str3 (x := x) c)).symm)
   ·exact .inr (.inr (D.str.inj (deq_str3 (x := x) c)).symm)
theorem places_congr {N : Nat} {f g : Nat → Bool} (h : ∀ k, k ≤ N → f k = g k) : places N f = places N g := by
 unfold places
 refine List.filter_congr fun k hk => ?_
 obtain ⟨i, hi, rfl⟩ := List.mem_map.mp hk
 exact h _ (by have := List.mem_range.mp hi; one_sign)
theorem wds_at {k : Nat} (hk : k ≤ ps.length) : (wds ps).getD k ⟨#[]⟩ = wrd ps k := by
 unfold wds
 rw [List.getD_eq_getElem?_getD, List.getElem?_map, List.getElem?_range (by one_sign)]; rfl
theorem even03 (hp : ∀ p ∈ ps, p < 8) (rest : Int → Int → Int) : ((places ps.length (isCut (wds ps))).foldl (stE rest (isMu (wds ps))) ([], [0])).1 = ((places ps.length (isMu (wds ps))).foldl (stL rest (isMay (wds ps))) ([], 0)).1 := by
 have e := (even_eq (rest := rest) (mu := isMu (wds ps)) (may := isMay (wds ps)) (cut := fun k => isMu (wds ps) k || isMay (wds ps) k) (fun _ => rfl) (fun k hk => by
  unfold isMu at hk
  unfold isMay
  rw [beq_iff_eq.mp (show (_ == Str.ofString "must") = true from hk)]; decide +kernel) ps.length).1
 rw [← e]
 congr 1
 refine congrArg (List.foldl _ _) (places_congr fun k hk => ?_)
 unfold isCut isMu isMay
 rw [wds_at hk]
 rcases wrd_in hp hk with h | h | h <;> (rw [h]; decide +kernel)
theorem sum_bounds : ∀ (ws : List Int), (∀ x ∈ ws, 0 ≤ x ∧ x < 4) → ∀ k, 0 ≤ (ws.take k).sum ∧ (ws.take k).sum ≤ 4 * ws.length
 | [], _, k => by simp
 | x :: ws, h, 0 => by simp; one_sign
 | x :: ws, h, k + 1 => by
  have i := sum_bounds ws (fun y hy => h y (.tail _ hy)) k
  have j := h x (.head _)
  rw [List.take_succ_cons, List.sum_cons, List.length_cons]
  one_sign
theorem mul03 {most : Int} {ws : List Int} (hm : 0 ≤ most ∧ most < 7) (hw : ∀ x ∈ ws, 0 ≤ x ∧ x < 4) (hl : ws.length ≤ 15) (hang : Nat → Bool) (a b : Int) : IntMulOk (restI most ws hang a b) (restI most ws hang a b) := by
 have h1 := sum_bounds ws hw (max a.toNat (wE hang b.toNat))
 have h2 := sum_bounds ws hw a.toNat
 unfold restI wid
 generalize (ws.take (max a.toNat (wE hang b.toNat))).sum = x at *
 generalize (ws.take a.toNat).sum = y at *
 exact IntMulOk.of_right (intBits_le_64 (by one_sign) (by one_sign))
end
theorem DeckOwn.perm {H0 H : Hp} {dk c : Addr} {t : Nat} {L L' : List (Addr × X)} (h : DeckOwn H0 H dk c t L) (p : L.Perm L') : DeckOwn H0 H dk c t L' := by
 obtain ⟨cs, o, l⟩ := h
 exact ⟨cs, o.perm ((p.cons _).cons _), l⟩
theorem DeckOwn.upd {H0 H : Hp} {dk c a : Addr} {x y : X} {t : Nat} {L : List (Addr × X)} (h : DeckOwn H0 H dk c t L) (i : Nat) (hi : L[i]? = some (a, x)) : DeckOwn H0 (H.set a y) dk c t (L.set i (a, y)) := by
 obtain ⟨cs, o, l⟩ := h
 exact ⟨cs, o.upd (y := y) (i + 2) hi, l⟩
theorem DeckOwn.at {H0 H : Hp} {dk c a : Addr} {x : X} {t : Nat} {L : List (Addr × X)} (h : DeckOwn H0 H dk c t L) (i : Nat) (hi : L[i]? = some (a, x)) : H a = some x := h.get (List.mem_of_getElem? hi)
theorem dk_refl_str : ∀ l : List Str, (((l.map D.str).zip (l.map D.str)).all fun p => dk p.1 p.2) = true
 | [] => rfl
 | x :: l => by
  show (dk (.str x) (.str x) && _) = true
  rw [show dk (D.str x) (.str x) = true from rfl, Bool.true_and]
  exact dk_refl_str l
theorem dk_refl_pr : ∀ l : List (Int × Int), (((l.map prD).zip (l.map prD)).all fun p => dk p.1 p.2) = true
 | [] => rfl
 | x :: l => by
  show (dk (prD x) (prD x) && _) = true
  rw [show dk (prD x) (prD x) = true from rfl, Bool.true_and]
  exact dk_refl_pr l
theorem deq_pr (x : Int × Int) : deq (prD x) (prD x) = true := by
 show ((2 : Nat) == 2 && ((x.1 == x.1) && ((x.2 == x.2) && true))) = true
 simp
theorem leq_pr (l : List (Int × Int)) : leq (l.map prD) (l.map prD) = true := by
 unfold leq
 rw [beq_self_eq_true, Bool.true_and]
 induction l with
 | nil => rfl
 | cons x l ih =>
  show (deq (prD x) (prD x) && _) = true
  rw [deq_pr, Bool.true_and]; exact ih
theorem leq_strs (l : List Str) : leq (l.map D.str) (l.map D.str) = true := leq_str rfl fun d hd => by
 obtain ⟨x, _, rfl⟩ := List.mem_map.mp hd; exact ⟨x, rfl⟩
theorem sgns_at {v : Int} (h0 : 0 ≤ v) (h1 : v < 8) : (sgns.map D.int)[v.toNat]? = some (.int (sgn v.toNat)) := by
 have h : v.toNat < 8 := by one_sign
 unfold sgn
 rw [List.getElem?_map, List.getD_eq_getElem?_getD, List.getElem?_eq_getElem (show v.toNat < sgns.length from h)]; rfl
theorem Ex.abs5 {G : Gd} {n : Nat} {env : Env} {m : Loc} {H : Hp} {ss : List Stmt} {Q : Fl → Loc → Hp → Prop} (x1 x2 x3 x4 x5 : Str) {d1 d2 d3 d4 d5 : D} (h1 : m x1 = some d1) (h2 : m x2 = some d2) (h3 : m x3 = some d3) (h4 : m x4 = some d4) (h5 : m x5 = some d5)
  (k : ∀ m, m x1 = some d1 → m x2 = some d2 → m x3 = some d3 → m x4 = some d4 → m x5 = some d5 → Ex G n env m H ss Q) : Ex G n env m H ss Q := k m h1 h2 h3 h4 h5
section
variable {w : World} {mg mb : Str → Option Value} {lo : Lo} {n : Nat}
theorem law_ok (hz : lo.2.2.length ≤ 63) : CalC (mkG w mg mb lo) (n + 13) (fun _ => none) (.ref 597) [.ref lo.2.1] fun d _ => d = .bool true := by
 refine CalC.fnC [Str.ofString "script"] (by ktr_unf) (by ktr_unf) (fun vs hv => ?_) (fun L hL => ?_) (by decide) ?hlk
 case hlk =>
  intro L p hp
  have e : p = (Str.ofString "text", L + 1 + 1) ∨ p = (Str.ofString "deck", L + 1) := by simpa [cellsFrom] using hp
  rcases e with e | e <;> (subst e; exact ⟨rfl, rfl⟩)
 ·obtain ⟨a, rfl⟩ := len1 hv; rfl
 show Ex _ _ _ _ ((Hp.set (fun _ => none) (L + 1) (.cel none)).set (L + 1 + 1) (.cel none)) _ _
 have o0 : Own (fun _ => none) ((Hp.set (fun _ => none) (L + 1) (.cel none)).set (L + 1 + 1) (.cel none)) [(L + 1 + 1, .cel none), (L + 1, .cel none)] := by
  refine ((Own.refl _).alloc rfl).alloc ((Hp.set_ne _ _ ?_).trans rfl)
  exact Nat.succ_ne_self _
 revert o0
 generalize (Hp.set (fun _ => none) (L + 1) (X.cel none)).set (L + 1 + 1) (X.cel none) = H0
 intro o0
 refine Ex.asg (Ev.callG (by ktr_unf) (by ktr_unf) (EvPL.to (EvPL.cons (EvP.loc rfl) EvPL.nil) (CalC.cal (CalC.le (law_deck_ok (n := n) hz fun dk c H1 hdk => ?_) (by one_sign)))))
 have hd1 : DeckOwn (fun _ => none) H1 dk c 0 [(L + 1 + 1, .cel none), (L + 1, .cel none)] := by
  obtain ⟨cs, o, l⟩ := hdk
  exact ⟨cs, o0.trans o, l⟩
 clear o0 hdk
 refine Asg.ncell rfl (hd1.get (.tail _ (.head _))) ?_
 have hd2 : DeckOwn (fun _ => none) (H1.set (L + 1) (.cel (some (.ref dk)))) dk c 0 [(L + 1 + 1, .cel none), (L + 1, .cel (some (.ref dk)))] := hd1.upd 1 rfl
 revert hd2; generalize H1.set (L + 1) (X.cel (some (.ref dk))) = H2; intro hd2
 clear hd1
 refine Ex.asg (Ev.comp (cl := [(Str.ofString "deck", L + 1)]) (by one_sign) ?_ ?hcl)
 case hcl => rfl
 refine Ev.locs (Ev.callTy (by ktr_unf) rfl (EvL.cons (Ev.bin (EvP.cint.to ?_))))
 refine Ev.callG (by ktr_unf) (by ktr_unf) (EvPL.to (EvPL.cons (EvP.cell rfl (hd2.get (.tail _ (.head _)))) (EvPL.cons EvP.cint EvPL.nil)) ?_)
 refine CalC.cal (CalC.le (law_draw_ok (n := n) hd2 (by decide) (by one_sign) fun v H3 v0 v1 hd3 => Bin.addI (EvL.nil (Cal.rng1 fun hL3 => ?_))) (by one_sign))
 refine ⟨isNm, H3, rngL 0 (1 + v), _, Itr.rng (by one_sign) (by one_sign) (by one_sign) (by one_sign), rfl, hL3, by rw [rngL_len, sizeLine_eq]; one_sign, fun C hC hCL => ?_⟩
 refine Lc.inv (fun i m' H' acc => ∃ ps : List Nat, DeckOwn (fun _ => none) H' dk c (i + 1) [(L + 1 + 1, .cel none), (L + 1, .cel (some (.ref dk)))] ∧ acc = (ps.map sgn).map .int ∧ ps.length = i ∧ ∀ p ∈ ps, p < 8) ?_ ?_ ⟨[], hd3, rfl, rfl, fun p hp => by cases hp⟩
 ·clear hd3 hd2 hL3 hC hCL
  rintro i d m' H' acc hi ⟨ps, hd, rfl, hpl, hp⟩
  obtain ⟨rfl, hil⟩ := rngL_inv hi
  refine ⟨trivial, Asg.name ⟨fun _ => ?_, fun h => by cases h⟩⟩
  refine Ev.item (EvP.to (EvP.glob (by ktr_unf) IsTop.ref) (Ev.callG (by ktr_unf) (by ktr_unf) (EvPL.to (EvPL.cons (EvP.cell rfl (hd.get (.tail _ (.head _)))) (EvPL.cons EvP.cint EvPL.nil)) ?_)))
  refine CalC.cal (CalC.le (law_draw_ok (n := n) hd (by decide) (by one_sign) fun u H4 u0 u1 hd4 => Item.lstA (l := sgns.map D.int) (LstAt.top (by ktr_unf) (IsTopL.cons (IsTop.s rfl) (IsTopL.cons (IsTop.s rfl) (IsTopL.cons (IsTop.s rfl) (IsTopL.cons (IsTop.s rfl) (IsTopL.cons (IsTop.s rfl) (IsTopL.cons (IsTop.s rfl) (IsTopL.cons (IsTop.s rfl) (IsTopL.cons (IsTop.s rfl) IsTopL.nil))))))))) u0 (sgns_at u0 u1) (by decide) ⟨ps ++ [u.toNat], hd4, by simp, by simp [hpl], fun p hpp => ?_⟩) (by one_sign))
  rcases List.mem_append.mp hpp with h | h
  ·exact hp p h
  ·rw [List.mem_singleton.mp h]; one_sign
 rintro m' H4 acc ⟨ps, hd4, rfl, hpl, hp⟩
 rw [rngL_len] at hpl hd4
 have ha : 1 ≤ ps.length := by one_sign
 have hb : ps.length ≤ 7 := by one_sign
 rw [hpl.symm] at hd4
 clear hpl hd3 hd2 v0 v1 hL3 hC hCL
 have lt : ((ps.map sgn).map D.int).length = ps.length := by simp
 have lt' : (ps.map sgn).length = ps.length := by simp
 refine ⟨trivial, fun tx htx _ => Asg.ncell rfl (Hp.keep htx (hd4.get (.head _))) ?_⟩
 have hd5 : DeckOwn (fun _ => none) ((H4.set tx (.lst ((ps.map sgn).map .int))).set (L + 1 + 1) (.cel (some (.ref tx)))) dk c (ps.length + 1) [(tx, .lst ((ps.map sgn).map .int)), (L + 1 + 1, .cel (some (.ref tx))), (L + 1, .cel (some (.ref dk)))] := (hd4.alloc htx).upd 1 rfl
 revert hd5; generalize (H4.set tx _).set (L + 1 + 1) _ = H5; intro hd5
 clear hd4 htx
 refine Ex.fresh fun hL5 => ?_
 refine' Ex.asgC (cl := [(Str.ofString "deck", L + 1)]) ?e1 ?e2 ?e3
 case e1 => one_sign
 case e3 => rfl
 case e2 =>
 refine EvP.to (EvP.cell rfl (hd5.get (.tail _ (.head _)))) ⟨_, _, _, _, Itr.lst (hd5.get (.head _)), rfl, hL5, by rw [lt, sizeLine_eq]; one_sign, fun C hC hCL => ?_⟩
 refine Lc.inv (fun i m' H' acc => ∃ ws : List Int, DeckOwn (fun _ => none) H' dk c (ps.length + 1 + i) [(tx, .lst ((ps.map sgn).map .int)), (L + 1 + 1, .cel (some (.ref tx))), (L + 1, .cel (some (.ref dk)))] ∧ acc = ws.map .int ∧ ws.length = i ∧ ∀ x ∈ ws, 0 ≤ x ∧ x < 4) ?_ ?_ ⟨[], hd5, rfl, rfl, fun p hp => by cases hp⟩
 ·clear hd5 hL5 hC hCL
  rintro i d m' H' acc hi ⟨ws, hd, rfl, hwl, hw⟩
  have hil : i < ps.length := by rw [← lt]; exact (List.getElem?_eq_some_iff.mp hi).1
  refine ⟨hd.get (.head _), Asg.name ⟨fun _ => ?_, fun h => by cases h⟩⟩
  refine Ev.callG (by ktr_unf) (by ktr_unf) (EvPL.to (EvPL.cons (EvP.cell rfl (hd.get (.tail _ (.tail _ (.head _))))) (EvPL.cons EvP.cint EvPL.nil)) ?_)
  refine CalC.cal (CalC.le (law_draw_ok (n := n) hd (by decide) (by one_sign) fun u H4 u0 u1 hd4 => ⟨ws ++ [u], hd4, by simp, by simp [hwl], fun p hpp => ?_⟩) (by one_sign))
  rcases List.mem_append.mp hpp with h | h
  ·exact hw p h
  ·rw [List.mem_singleton.mp h]; exact ⟨u0, u1⟩
 rintro m' H6 acc ⟨ws, hd6, rfl, hwl, hw⟩
 rw [lt] at hwl hd6
 have lw : (ws.map D.int).length = ws.length := by simp
 refine ⟨hd6.get (.head _), fun tw htw _ => Asg.name ?_⟩
 have hd7 := hd6.alloc (x := .lst (ws.map .int)) htw
 revert hd7; generalize H6.set tw _ = H7; intro hd7
 clear hd6 htw hd5 hL5 hC hCL
 refine Ex.asgS (names := [Str.ofString "most", Str.ofString "was"]) (Ev.tup (EvL.cons (Ev.callG (by ktr_unf) (by ktr_unf) (EvPL.to (EvPL.cons (EvP.cell rfl (hd7.get (.tail _ (.tail _ (.tail _ (.head _)))))) (EvPL.cons EvP.cint EvPL.nil)) ?_))))
 refine CalC.cal (CalC.le (law_draw_ok (n := n) hd7 (by decide) (by one_sign) fun most H8 q0 q1 hd8 => EvL.cons (Ev.lst (EvL.cons (Ev.callTy (by ktr_unf) rfl (EvPL.to (EvPL.cons (EvP.cell rfl (hd8.get (.tail _ (.tail _ (.head _))))) EvPL.nil) ?_))))) (by one_sign))
 refine Cal.listL (LstAt.own (hd8.get (.tail _ (.head _)))) (by rw [lt, sizeLine_eq]; one_sign) fun ta hta => ?_
 have hd9 := hd8.alloc (x := .lst ((ps.map sgn).map .int)) hta
 revert hd9; generalize H8.set ta _ = H9; intro hd9
 clear hd8 hd7 hta
 refine EvL.cons (Ev.callTy (by ktr_unf) rfl (EvPL.to (EvPL.cons (EvP.loc lset_self) EvPL.nil) ?_))
 refine Cal.listL (LstAt.own (hd9.get (.tail _ (.head _)))) (by rw [lw, sizeLine_eq]; one_sign) fun tb htb => ?_
 have hd10 := hd9.alloc (x := .lst (ws.map .int)) htb
 revert hd10; generalize H9.set tb _ = H10; intro hd10
 clear hd9 htb
 refine EvL.nil ⟨Nat.le_of_ble_eq_true rfl, fun wa hwa _ => EvL.nil ⟨Nat.le_of_ble_eq_true rfl, _, rfl, rfl, rfl, rfl, rfl, rfl, ?_⟩⟩
 have hd11 := hd10.alloc (x := .lst [.ref ta, .ref tb]) hwa
 revert hd11; generalize H10.set wa _ = H11; intro hd11
 clear hd10 hwa
 refine Ex.fresh fun hL11 => ?_
 refine' Ex.asgC (cl := [(Str.ofString "text", L + 1 + 1)]) ?e1 ?e2 ?e3
 case e1 => one_sign
 case e3 => rfl
 case e2 =>
 have ptx := hd11.get (a := tx) (x := .lst ((ps.map sgn).map .int)) (.tail _ (.tail _ (.tail _ (.tail _ (.head _)))))
 have pc := hd11.get (a := L + 1 + 1) (x := .cel (some (.ref tx))) (.tail _ (.tail _ (.tail _ (.tail _ (.tail _ (.head _))))))
 refine Ev.callTy (by ktr_unf) rfl (EvPL.to (EvPL.cons (EvP.bin (EvP.callB (id := "len") (by ktr_unf) rfl (EvPL.cons (EvP.cell rfl pc) EvPL.nil) (CalP.lenL ptx (by one_sign))) EvP.cint BinP.add) EvPL.nil) (Cal.rng1 ?_))
 rw [lt]
 refine ⟨isNm, H11, rngL 0 ((ps.length : Int) + 1), _, Itr.rng (by one_sign) (by one_sign) (by one_sign) (by one_sign), rfl, hL11, by rw [rngL_len, sizeLine_eq]; one_sign, fun C hC hCL => ?_⟩
 refine Lc.inv (fun i m' H' acc => H' = H11 ∧ acc = (List.range i).map (placeD ps)) ?_ ?_ ⟨rfl, rfl⟩
 ·rintro i d m' H' acc hi ⟨rfl, rfl⟩
  obtain ⟨rfl, hil⟩ := rngL_inv hi
  rw [Int.zero_add]
  refine ⟨trivial, Asg.name ⟨fun _ => EvP.to (EvP.callD (f := 573) (by ktr_unf) (EvP.glob (by ktr_unf) IsTop.ref) (EvPL.cons (EvP.cell rfl pc) (EvPL.cons (EvP.loc lset_self) EvPL.nil)) ((law_place_ok (n := n) ptx (by one_sign) hp (by one_sign)).le (by one_sign))) ⟨rfl, ?_⟩, fun h => by cases h⟩⟩
  rw [List.range_succ, List.map_append]; rfl
 rintro m' H' acc ⟨rfl, rfl⟩
 rw [rngL_len, show ((ps.length : Int) + 1 - 0).toNat = ps.length + 1 by one_sign]
 refine ⟨trivial, fun to hto _ => Asg.name ?_⟩
 have hd12 := hd11.alloc (x := .lst ((List.range (ps.length + 1)).map (placeD ps))) hto
 revert hd12; generalize H'.set to _ = H12; intro hd12
 clear hd11 hto hL11 hC hCL ptx pc
 refine Ex.fresh fun hL12 => ?_
 refine' Ex.asgC (cl := []) ?e1 ?e2 ?e3
 case e1 => one_sign
 case e3 => rfl
 case e2 =>
 refine EvP.to (EvP.loc lset_self) ⟨_, _, _, _, Itr.lst (hd12.get (.head _)), rfl, hL12, by rw [List.length_map, List.length_range, sizeLine_eq]; one_sign, fun C hC hCL => ?_⟩
 refine Lc.inv (fun i m' H' acc => H' = H12 ∧ acc = ((wds ps).take i).map .str) ?_ ?_ ⟨rfl, rfl⟩
 ·rintro i d m' H' acc hi ⟨rfl, rfl⟩
  obtain ⟨k, hk, rfl⟩ := map_inv hi
  have ek : k = i ∧ i < ps.length + 1 := by
   obtain ⟨h1, h2⟩ := List.getElem?_eq_some_iff.mp hk
   rw [List.length_range] at h1
   rw [List.getElem_range] at h2
   exact ⟨h2.symm, h1⟩
  obtain ⟨rfl, hk2⟩ := ek
  rw [placeD_eq]
  refine ⟨hd12.get (.head _), Asg.tup (AsgL.cons (Asg.name (AsgL.cons (Asg.name (AsgL.nil ⟨fun _ => EvP.to (EvP.loc (by ktr_rel)) ⟨rfl, ?_⟩, fun h => by cases h⟩)))))⟩
  rw [List.take_add_one]
  unfold wds
  rw [List.getElem?_map, List.getElem?_range hk2, List.map_append]; rfl
 rintro m' H' acc ⟨rfl, rfl⟩
 rw [List.length_map, List.length_range, List.take_of_length_le (by rw [wds_len]; one_sign)]
 refine ⟨hd12.get (.head _), fun kn hkn _ => Asg.name ?_⟩
 have hd13 := hd12.alloc (x := .lst ((wds ps).map .str)) hkn
 revert hd13; generalize H'.set kn _ = H13; intro hd13
 clear hd12 hkn hL12 hC hCL
 refine Ex.abs5 (Str.ofString "widths") (Str.ofString "most") (Str.ofString "was") (Str.ofString "told") (Str.ofString "known") (d1 := .ref tw) (d2 := .int most) (d3 := .ref wa) (d4 := .ref to) (d5 := .ref kn) (by ktr_rel) (by ktr_rel) (by ktr_rel) (by ktr_rel) (by ktr_rel) fun m g1 g2 g3 g4 g5 => ?_
 refine Ex.asg (Ev.callG (by ktr_unf) (by ktr_unf) (EvL.cons (Ev.callG0 (by ktr_unf) (by ktr_unf) (CalC.cal (CalC.le (law_data_ok (n := n) fun da H14 hdb => EvL.nil ?_) (by one_sign))))))
 obtain ⟨⟨dx, a1, a2, a3, a4, dl, es, hdl, hes, hnd, o14⟩, hok⟩ := hdb
 have hd14 := (hd13.trans o14).perm List.perm_append_comm
 clear hd13 o14
 refine CalC.cal (CalC.le (LineBreaks1_ok (n := n) fun x dxb ha1 dh1 H15 ob => Asg.name ?_) (by one_sign))
 have hd15 := hd14.trans ob
 clear hd14 ob
 replace hd15 : DeckOwn (fun _ => none) H15 dk c (ps.length + 1 + ps.length + 1) ((ha1, .ins 122 dh1) :: (dh1, .dct (howD (Str.ofString "strict") (Str.ofString "pairs") false)) :: (x, .ins 432 dxb) :: (dxb, .dct (brkD da ha1)) :: (kn, .lst ((wds ps).map .str)) :: (to, .lst ((List.range (ps.length + 1)).map (placeD ps))) :: (wa, .lst [.ref ta, .ref tb]) :: (tb, .lst (ws.map .int)) :: (ta, .lst ((ps.map sgn).map .int)) :: (tw, .lst (ws.map .int)) :: (tx, .lst ((ps.map sgn).map .int)) :: (L + 1 + 1, .cel (some (.ref tx))) :: (L + 1, .cel (some (.ref dk))) :: dbL da dx a1 a2 a3 a4 dl es) := hd15
 have ptx : H15 tx = some (.lst ((ps.map sgn).map .int)) := hd15.at 10 rfl
 have ptw : H15 tw = some (.lst (ws.map .int)) := hd15.at 9 rfl
 have pkn : H15 kn = some (.lst ((wds ps).map .str)) := hd15.at 4 rfl
 have pto : H15 to = some (.lst ((List.range (ps.length + 1)).map (placeD ps))) := hd15.at 5 rfl
 have pc2 : H15 (L + 1 + 1) = some (.cel (some (.ref tx))) := hd15.at 11 rfl
 have hDB : DB (fun _ => none) H15 da (dbK ops03 6) := ⟨⟨dx, a1, a2, a3, a4, dl, es, hdl, hes, hnd, hd15.own.weak (.cons _ (.cons _ (.cons _ (.cons _ (.cons _ (.cons _ (.cons _ (.cons _ (.cons _ (.cons _ (.cons _ (.cons _ (.cons _ (.refl _))))))))))))))⟩, hok⟩
 have pb : BrkAt H15 x dxb da ha1 dh1 (Str.ofString "strict") (Str.ofString "pairs") false := ⟨hd15.at 2 rfl, hd15.at 3 rfl, hd15.at 0 rfl, hd15.at 1 rfl⟩
 have e1 := opps03 hp ha
 have e2 := names03 hp ha
 unfold V03 at e1 e2
 refine Ex.iteP (x := false) ?t1 (fun h => by cases h) (fun _ => Ex.nil ?_)
 case t1 =>
  refine EvB.p (EvB.or (EvB.cmp ?_))
  refine Ev.meth (x := x) (C := 432) (dx := dxb) (f := 403) me_LineBreaks_opportunities.1 me_LineBreaks_opportunities.2.1 me_LineBreaks_opportunities.2.2.1 me_LineBreaks_opportunities.2.2.2 (EvP.to (EvP.loc (by ktr_rel)) ⟨rfl, pb.x, pb.dx, rfl, EvPL.to (EvPL.cons (EvP.cell rfl pc2) EvPL.nil) ?_⟩)
  refine CalC.cal (CalC.le (opps_ok (n := n) (lb := lb03) (gc := gc03) (ea := ea03) pb ptx (by one_sign) (by one_sign) (fun H'' s => DB.dat hDB s) (by decide) (codes03 hp) fun op H16 o16 => ?_) (by one_sign))
  have po : H16 op = some (.lst ((wds ps).map .str)) := by rw [← e1]; exact o16.get (.head _)
  refine EvP.to (EvP.loc (by ktr_rel)) (Cmp.neL po (o16.sub _ _ pkn) (Tru.bool ⟨fun h => ?_, fun _ => ?_⟩) (dk_refl_str _) (by one_sign))
  ·rw [leq_strs] at h; cases h
  refine EvB.or (EvB.cmp ?_)
  have pb1 := pb.sub o16.sub
  refine Ev.meth (x := x) (C := 432) (dx := dxb) (f := 408) me_LineBreaks_reasons.1 me_LineBreaks_reasons.2.1 me_LineBreaks_reasons.2.2.1 me_LineBreaks_reasons.2.2.2 (EvP.to (EvP.loc (by ktr_rel)) ⟨rfl, pb1.x, pb1.dx, rfl, EvPL.to (EvPL.cons (EvP.cell rfl (o16.sub _ _ pc2)) EvPL.nil) ?_⟩)
  refine CalC.cal (CalC.le (reasons_ok (n := n) (lb := lb03) (gc := gc03) (ea := ea03) pb1 (o16.sub _ _ ptx) (by one_sign) (by one_sign) (fun H'' s => DB.dat hDB (o16.sub.trans s)) (by decide) (codes03 hp) fun rp H17 o17 => ?_) (by one_sign))
  have pr : H17 rp = some (.lst ((rsns ps).map .str)) := by rw [← e2]; exact o17.get (.head _)
  have s17 := o16.sub.trans o17.sub
  have pto1 := s17 _ _ pto
  refine Ev.fresh fun hL17 => Ev.comp (cl := []) (by one_sign) ?_ ?hcl9
  case hcl9 => rfl
  refine EvP.to (EvP.loc (by ktr_rel)) ⟨_, _, _, _, Itr.lst pto1, rfl, hL17, by rw [List.length_map, List.length_range, sizeLine_eq]; one_sign, fun C hC hCL => ?_⟩
  clear o17 o16 po
  refine Lc.inv (fun i m' H' acc => H' = H17 ∧ acc = ((rsns ps).take i).map .str) ?_ ?_ ⟨rfl, rfl⟩
  ·rintro i d m' H' acc hi ⟨rfl, rfl⟩
   obtain ⟨k, hk, rfl⟩ := map_inv hi
   have ek : k = i ∧ i < ps.length + 1 := by
    obtain ⟨h1, h2⟩ := List.getElem?_eq_some_iff.mp hk
    rw [List.length_range] at h1
    rw [List.getElem_range] at h2
    exact ⟨h2.symm, h1⟩
   obtain ⟨rfl, hk2⟩ := ek
   rw [placeD_eq]
   refine ⟨pto1, Asg.tup (AsgL.cons (Asg.name (AsgL.cons (Asg.name (AsgL.nil ⟨fun _ => EvP.to (EvP.loc (by ktr_rel)) ⟨rfl, ?_⟩, fun h => by cases h⟩)))))⟩
   rw [List.take_add_one]
   unfold rsns
   rw [List.getElem?_map, List.getElem?_range hk2, List.map_append]; rfl
  ·rintro m' H' acc ⟨rfl, rfl⟩
   rw [List.length_map, List.length_range, List.take_of_length_le (by rw [rsns_len]; one_sign)]
   refine ⟨pto1, fun rr hrr _ => Cmp.neL (Hp.keep hrr pr) (Hp.set_self ..) (Tru.bool ⟨fun h => ?_, fun _ => EvB.or_nil ⟨s17.trans (Sub.set hrr), rfl⟩⟩) (dk_refl_str _) (by one_sign)⟩
   rw [leq_strs] at h; cases h
 have hmu : ∀ hang a b, IntMulOk (restI most ws hang a b) (restI most ws hang a b) := fun hang a b => mul03 ⟨q0, q1⟩ hw (by one_sign) hang a b
 have hh := hang03 hp
 refine Ex.iteP (x := false) ?t2 (fun h => by cases h) (fun _ => Ex.nil ?_)
 case t2 =>
  refine EvB.p (EvB.cmp ?_)
  refine Ev.meth (x := x) (C := 432) (dx := dxb) (f := 429) me_LineBreaks_even_lines.1 me_LineBreaks_even_lines.2.1 me_LineBreaks_even_lines.2.2.1 me_LineBreaks_even_lines.2.2.2 (EvP.to (EvP.loc (by ktr_rel)) ⟨rfl, pb.x, pb.dx, rfl, EvPL.to (EvPL.cons (EvP.cell rfl pc2) (EvPL.cons (EvP.loc (by ktr_rel)) (EvPL.cons (EvP.loc (by ktr_rel)) EvPL.nil))) ?_⟩)
  refine CalC.cal (CalC.le (even_lines_ok (n := n) (lb := lb03) (gc := gc03) (ea := ea03) (W := wds ps) (most := most) pb ptx ptw (by one_sign) (by one_sign) (by one_sign) (fun H'' s => DB.dat hDB s) (by decide) (codes03 hp) e1 (hmu _) fun g L16 H16 o16 => ?_) (by one_sign))
  have pg := o16.get (.head _)
  rw [hh, hwl, even03 hp] at pg
  have s16 := o16.sub
  clear o16
  refine Ev.callG (by ktr_unf) (by ktr_unf) (EvPL.to (EvPL.cons (EvP.loc (by ktr_rel)) (EvPL.cons (EvP.cell rfl (s16 _ _ pc2)) (EvPL.cons (EvP.loc (by ktr_rel)) (EvPL.cons (EvP.loc (by ktr_rel)) EvPL.nil)))) ?_)
  refine CalC.cal (CalC.le (law_even_ok (n := n) (s16 _ _ pkn) (s16 _ _ ptx) (s16 _ _ ptw) (by one_sign) (by rw [wds_len, lt']) (by one_sign) (hmu _) fun g2 L17 H17 o17 => ?_) (by one_sign))
  have pg2 := o17.get (.head _)
  rw [lt'] at pg2
  refine Cmp.neL (o17.sub _ _ pg) pg2 (Tru.bool ⟨s16.trans o17.sub, ?_⟩) (dk_refl_pr _) (by one_sign)
  rw [leq_pr]; rfl
 clear e1 e2 hmu pkn pto
 refine Ex.asg (Ev.callG (by ktr_unf) (by ktr_unf) (EvPL.to (EvPL.cons (EvP.cell rfl (hd15.at 12 rfl)) (EvPL.cons (EvP.callB (id := "len") (by ktr_unf) rfl (EvPL.cons (EvP.cell rfl pc2) EvPL.nil) (CalP.lenL ptx (by one_sign))) EvPL.nil)) ?_))
 rw [lt]
 refine CalC.cal (CalC.le (law_draw_ok (n := n) hd15 (by one_sign) (by one_sign) fun st H16 s0 s1 hd16 => Asg.name ?_) (by one_sign))
 obtain ⟨st, rfl⟩ : ∃ k : Nat, st = (k : Int) := ⟨st.toNat, by one_sign⟩
 clear ptx ptw pc2 hDB pb hd15
 refine Ex.asg (Ev.bin (EvP.to (EvP.bin (EvP.loc lset_self) EvP.cint BinP.add) (Ev.callG (by ktr_unf) (by ktr_unf) (EvPL.to (EvPL.cons (EvP.cell rfl (hd16.at 12 rfl)) (EvPL.cons (EvP.bin (EvP.callB (id := "len") (by ktr_unf) rfl (EvPL.cons (EvP.cell rfl (hd16.at 11 rfl)) EvPL.nil) (CalP.lenL (hd16.at 10 rfl) (by one_sign))) (EvP.loc lset_self) BinP.sub) EvPL.nil)) ?_))))
 rw [lt]
 refine CalC.cal (CalC.le (law_draw_ok (n := n) hd16 (by one_sign) (by one_sign) fun en H17 n0 n1 hd17 => Bin.addI (Asg.name ?_)) (by one_sign))
 obtain ⟨b, eb⟩ : ∃ b : Nat, (st : Int) + 1 + en = (b : Int) := ⟨((st : Int) + 1 + en).toNat, by one_sign⟩
 rw [eb]
 clear hd16
 have ptx : H17 tx = some (.lst ((ps.map sgn).map .int)) := hd17.at 10 rfl
 have ptw : H17 tw = some (.lst (ws.map .int)) := hd17.at 9 rfl
 have pc2 : H17 (L + 1 + 1) = some (.cel (some (.ref tx))) := hd17.at 11 rfl
 have hDB : DB (fun _ => none) H17 da (dbK ops03 6) := ⟨⟨dx, a1, a2, a3, a4, dl, es, hdl, hes, hnd, hd17.own.weak (.cons _ (.cons _ (.cons _ (.cons _ (.cons _ (.cons _ (.cons _ (.cons _ (.cons _ (.cons _ (.cons _ (.cons _ (.cons _ (.refl _))))))))))))))⟩, hok⟩
 have pb : BrkAt H17 x dxb da ha1 dh1 (Str.ofString "strict") (Str.ofString "pairs") false := ⟨hd17.at 2 rfl, hd17.at 3 rfl, hd17.at 0 rfl, hd17.at 1 rfl⟩
 refine Ex.iteP (x := false) ?t3 (fun h => by cases h) (fun _ => Ex.nil ?_)
 case t3 =>
  refine EvB.p (EvB.cmp ?_)
  refine Ev.methE (C := 367) (f := 364) me_LineMeasure_width.1 me_LineMeasure_width.2.1 me_LineMeasure_width.2.2.1 me_LineMeasure_width.2.2.2 ?_
  refine Ev.meth (x := x) (C := 432) (dx := dxb) (f := 413) me_LineBreaks_measure.1 me_LineBreaks_measure.2.1 me_LineBreaks_measure.2.2.1 me_LineBreaks_measure.2.2.2 (EvP.to (EvP.loc (by ktr_rel)) ⟨rfl, pb.x, pb.dx, rfl, EvPL.to (EvPL.cons (EvP.cell rfl pc2) (EvPL.cons (EvP.loc (by ktr_rel)) EvPL.nil)) ?_⟩)
  refine CalC.cal (CalC.le (measure_ok (n := n) (lb := lb03) (gc := gc03) (ea := ea03) pb ptx ptw (by one_sign) (by one_sign) (fun H'' s => DB.dat hDB s) (by decide) (codes03 hp) fun y dy s e H18 L18 o18 hM _ => ?_) (by one_sign))
  rw [hh] at hM
  have s18 := o18.sub
  refine ⟨y, dy, _, rfl, hM.x, hM.dx, rfl, EvPL.to (EvPL.cons (EvP.loc (by ktr_rel)) (EvPL.cons (EvP.loc (by ktr_rel)) EvPL.nil)) ?_⟩
  refine CalP.to (CalP.le (width_ok (n := n) hM (by one_sign) (a := st) (b := b) (by one_sign) (by one_sign)) (by one_sign)) ?_
  refine EvP.to (EvP.callD (f := 580) (by ktr_unf) (EvP.glob (by ktr_unf) IsTop.ref) (EvPL.cons (EvP.cell rfl (s18 _ _ pc2)) (EvPL.cons (EvP.loc (by ktr_rel)) (EvPL.cons (EvP.loc (by ktr_rel)) (EvPL.cons (EvP.loc (by ktr_rel)) EvPL.nil)))) ((law_width_ok (n := n) (s18 _ _ ptx) (s18 _ _ ptw) (by one_sign) (by one_sign) (a := st) (b := b) (by one_sign) (by one_sign)).le (by one_sign))) (Cmp.ne (Tru.bool ⟨s18, ?_⟩))
  show (!(_ == _)) = false
  rw [beq_self_eq_true]; rfl
 refine Ex.ret (Ev.cmp (Ev.lst (EvPL.to (EvPL.cons (EvP.cell rfl pc2) (EvPL.cons (EvP.loc (by ktr_rel)) EvPL.nil)) ⟨Nat.le_of_ble_eq_true rfl, fun nl hnl _ => EvP.to (EvP.loc (by ktr_rel)) ?_⟩)))
 exact Cmp.eqLL (Hp.set_self ..) (Hp.keep hnl (hd17.at 6 rfl)) (Hp.keep hnl ptx) (Hp.keep hnl ptw) (Hp.keep hnl (hd17.at 8 rfl)) (Hp.keep hnl (hd17.at 7 rfl)) rfl (by one_sign)
end
section
variable {w : World} {mg mb : Str → Option Value} {lo : Lo}
local macro_rules | `(tactic| ktr_unf) => `(tactic| (dsimp only [mkG]; k_is))
theorem law_at {h : Heap} (KX : (H.frag w.params).In h) (T : TopRead H.view lo.1 mg mb h) {fa : Addr} (hm : mg (Str.ofString "law") = some (.ref fa)) : fa = 597 := by
 have e : nsIn (mkG w mg mb lo).K mainGlobals (Str.ofString "law") = some (some (.ref 597)) := by ktr_unf
 have := mg_of (K := H.frag w.params) KX T.g e
 rw [hm] at this
 cases this; rfl
theorem law_ends {s : Shared} {vs : List Value} (hlaw : CalC (mkG w mg mb lo) 13 (fun _ => none) (.ref 597) [.ref lo.2.1] fun d _ => d = .bool true) (KX : (H.frag w.params).In s.heap) (T : TopRead H.view lo.1 mg mb s.heap) (hL : s.heap.IsList lo.2.1 vs.toArray) (hI : IntsAre vs lo.2.2) :
  codeAny (model PySem.Challenge.pw_on0381_03 w) callerA (.call (.ref 597) ⟨[.ref lo.2.1], []⟩) (fun r s' => r = .ok (.ret (.bool true)) ∧ (∀ b o, s.heap.get? b = some o → s'.heap.get? b = some o) ∧ s'.os = s.os ∧ s'.gens = s.gens) s := by
 have TT : TopOk (mkG w mg mb lo) s.heap := ⟨KX, T, vs, hL, hI⟩
 have key : ∃ o, s.heap.get? mainGlobals = some o := by
  obtain ⟨o, _, _, ho, _⟩ := T.g
  exact ⟨o, ho⟩
 obtain ⟨o, ho⟩ := key
 refine codeAny_mono (hlaw s [.ref lo.2.1] (.cons (.ref _) .nil) s.heap callerA TT ⟨rfl, by decide, by decide⟩ ⟨fun b o e => e, fun a x e => (by cases e), ⟨mainGlobals, o, by decide, ho⟩, fun a x e => (by cases e)⟩) ?_
 rintro r s' ⟨v, d, H', rfl, i, S, st, rfl⟩
 cases i
 exact ⟨rfl, S.keep, st.os, st.gens⟩
end
theorem post02 {args after : List WData} (h : after = args) : (PySem.Challenge.rw_on0381_03).row.claim.post args (.bool true) after = true := by
 subst h
 exact postW_of (r := (PySem.Challenge.rw_on0381_03).row.toRowW) (X := true == true) rfl (w_eq_bool (w_res rfl) w_lit) rfl
end Mine
open PySem PySem.W PyProof.Rows PySem.Spec PySem.Calls
theorem Mine.ws : OpenLaw.wellSaid PySem.Challenge.rw_on0381_03 = true := by kernel_rfl
set_option maxHeartbeats 8000000 in
theorem PySem.Challenge.cw_on0381_03_holds : PySem.Challenge.rw_on0381_03.Holds := by
 refine holds_law Mine.ws fun said => ?_
 refine holds_open (q := Mine.H.view) (loose := [Str.ofString "UniError", Str.ofString "LINE_JAMO", Str.ofString "LineBreaks", Str.ofString "_law_signs"]) (Xt := fun s => xlAt Mine.H.view [] s && recOk PySem.Challenge.rw_on0381_03.row.records s) (XP := XL Mine.H.view []) (Yf := Mine.H.hook.obs) (Ya := Mine.H.hook.val) (YP := Mine.H.hook.says) (N := 8630) Mine.H.left Mine.H.hook.of Mine.H.hook.keeps (fun s e => xl_of s (Bool.and_eq_true_iff.mp e).1) XL.keeps (by rfl) (by rfl) (by rfl) (fun s e => recFacts_of (Bool.and_eq_true_iff.mp e).2) (by rfl) said Mine.H.p40 ⟨rfl, rfl, rfl, rfl, rfl, Mine.H.p41⟩ ⟨[.list []], Mine.H.p699, Mine.H.p700⟩ ?_
 intro w s₀ s₁ mg mb G Y fa o pm cd doc dV kV ho hd' hcd hD hmg hg args vals as hpre hlay hrd hwl hlo
 have KX := kIn_of (K := Mine.H.frag) Y
 refine Ground.open G ?_
 intro T B D TE TW
 wrow_args hpre hlay hrd hwl hlo
 first | refine callC_kw (enter_call ?_) | refine enter_call ?_ | refine callC_kw (enter_callW ?_) | refine enter_callW ?_ | w_how
 refine codeAny_mono ?_ (fun _ _ g => GoodW.toG g)
 have TR := topRead_of T
 have hfa := Mine.law_at (w := w) (lo := (_, 0, [])) KX TR hmg
 subst hfa
 refine codeAny_mono (Mine.law_ends (lo := (_, _, _)) (Mine.law_ok (n := 0) ?hz) KX TR (by with_reducible assumption) (by with_reducible assumption)) ?_
 case hz => dsimp only; omega
 rintro r s' ⟨rfl, hk, hos, hge⟩
 exact ⟨.inl ⟨.bool true, .bool true, [], rfl, fun _ => rfl, .bool true, Mine.post02 rfl, fun _ => ⟨.nil, fun a ha => by cases ha⟩⟩, hk, hos, hge.trans hg⟩
