import PyProof.Rows.All
import Wide.All
import OpenK.AllK
import Wide.FinOn
import PyProof.SliceMore
import PyProof.ZipIter
import KE.KDictLaws
import PyProof.DictWalks
import PyProof.Rows.DictUnroll
import PySem.Challenge.RW_on0381_01
set_option Elab.async false
set_option linter.unusedVariables false
set_option linter.deprecated false
set_option maxRecDepth 100000
set_option maxHeartbeats 8000000
set_option compiler.extract_closed false
namespace Mine
open PySem PySem.Spec PySem.Calls PyProof.Rows PySem.W PySem.SeqAt
local macro_rules | `(tactic| one_sign) => `(tactic| first | exact Nat.le_of_ble_eq_true rfl | exact Nat.add_le_add_left (Nat.le_of_ble_eq_true rfl) _ | exact Nat.le_add_left_of_le (Nat.le_of_ble_eq_true rfl) | lia | omega)
section
set_option tactic.hygienic false

inductive D where
  | none
  | bool (b : Bool)
  | int (i : Int)
  | str (s : Str)
  | tup (l : List D)
  | ref (a : Addr)
  | bi (id : String)
  | ty (n : String)
  | rng (lo hi : Int)

noncomputable def imm (o : Obj) : Bool := match o.data with
  | .seq _ _ => o.cls == .type "tuple"
  | .fields _ => o.cls == .type "range"
  | _ => false
noncomputable def TupKeep (h h' : Heap) : Prop := ∀ a o, h.get? a = some o → imm o = true → h'.get? a = some o
theorem TupKeep.refl (h : Heap) : TupKeep h h := fun _ _ e _ => e
theorem TupKeep.trans {h h' h'' : Heap} (x : TupKeep h h') (y : TupKeep h' h'') : TupKeep h h'' := fun a o e q => y a o (x a o e q) q
theorem TupKeep.keeps {h h' : Heap} (k : ∀ b o, h.get? b = some o → h'.get? b = some o) : TupKeep h h' := fun a o e _ => k a o e
theorem TupKeep.tup {h h' : Heap} (k : TupKeep h h') {a : Addr} {vs : Array Value} (t : IsTup h a vs) : IsTup h' a vs :=
  let ⟨o, h1, h2, n, h3⟩ := t; ⟨o, k a o h1 (by unfold imm; rw [h3, h2]; exact beq_self_eq_true _), h2, n, h3⟩
theorem TupKeep.rng {h h' : Heap} (k : TupKeep h h') {a : Addr} {lo hi c : Int} {t u v : Tok} (r : IsRange h a lo hi c t u v) : IsRange h' a lo hi c t u v := k a _ r (by unfold imm; exact beq_self_eq_true _)

inductive X where
  | lst (l : List D)
  | dct (l : List (D × D))
  | ins (C dx : Addr)
  | ns (m : Str → Option D)
  | cel (d : Option D)
  | raw (P : Heap → Obj → Prop) (hP : ∀ h h' o, TupKeep h h' → P h o → P h' o)

noncomputable abbrev Loc := Str → Option D
noncomputable abbrev Hp := Addr → Option X
noncomputable def Hp.set (H : Hp) (a : Addr) (x : X) : Hp := fun b => if b = a then some x else H b
noncomputable def lset (m : Loc) (k : Str) (d : D) : Loc := fun y => if y = k then some d else m y

theorem Hp.set_self (H : Hp) (a : Addr) (x : X) : (H.set a x) a = some x := if_pos rfl
theorem Hp.set_ne (H : Hp) {a b : Addr} (x : X) (h : b ≠ a) : (H.set a x) b = H b := if_neg h
theorem Hp.set_set (H : Hp) (a : Addr) (x y : X) : (H.set a x).set a y = H.set a y := by
  funext b; unfold Hp.set; by_cases h : b = a <;> simp [h]
theorem Hp.set_comm (H : Hp) {a b : Addr} (x y : X) (h : a ≠ b) : (H.set a x).set b y = (H.set b y).set a x := by
  funext c; unfold Hp.set; by_cases h1 : c = a <;> by_cases h2 : c = b <;> simp_all
theorem Hp.set_same (H : Hp) {a : Addr} {x : X} (h : H a = some x) : H.set a x = H := by
  funext c; unfold Hp.set; by_cases h1 : c = a <;> simp_all

mutual
inductive Is (h : Heap) : Value → D → Prop
  | none : Is h .none .none
  | bool (b : Bool) : Is h (.bool b) (.bool b)
  | int (i : Int) (t : Tok) : Is h (.int i t) (.int i)
  | str (s : Str) (t : Tok) : Is h (.str s t) (.str s)
  | tup {a : Addr} {vs : List Value} {l : List D} : IsTup h a vs.toArray → IsL h vs l → Is h (.ref a) (.tup l)
  | ref (a : Addr) : Is h (.ref a) (.ref a)
  | bi (id : String) : Is h (.builtin id) (.bi id)
  | ty (n : String) : Is h (.type n) (.ty n)
  | rng {a : Addr} {lo hi : Int} {t u v : Tok} : IsRange h a lo hi 1 t u v → Is h (.ref a) (.rng lo hi)
inductive IsL (h : Heap) : List Value → List D → Prop
  | nil : IsL h [] []
  | cons {v : Value} {d : D} {vs : List Value} {l : List D} : Is h v d → IsL h vs l → IsL h (v :: vs) (d :: l)
end

noncomputable def IsI (h : Heap) (v : Value) : D → Prop
  | .none => v = .none
  | .bool b => v = .bool b
  | .int i => ∃ t, v = .int i t
  | .str s => ∃ t, v = .str s t
  | .tup l => ∃ (a : Addr) (vs : List Value), v = .ref a ∧ IsTup h a vs.toArray ∧ IsL h vs l
  | .ref a => v = .ref a
  | .bi id => v = .builtin id
  | .ty n => v = .type n
  | .rng lo hi => ∃ (a : Addr) (t u w : Tok), v = .ref a ∧ IsRange h a lo hi 1 t u w
theorem Is.inv {h : Heap} {v : Value} {d : D} (i : Is h v d) : IsI h v d :=
  Is.casesOn (motive_1 := fun v d _ => IsI h v d) i rfl (fun _ => rfl) (fun _ t => ⟨t, rfl⟩) (fun _ t => ⟨t, rfl⟩) (fun x y => ⟨_, _, rfl, x, y⟩) (fun _ => rfl) (fun _ => rfl) (fun _ => rfl) (fun r => ⟨_, _, _, _, rfl, r⟩)
noncomputable def ILI (h : Heap) (vs : List Value) : List D → Prop
  | [] => vs = []
  | d :: l => ∃ (v : Value) (ws : List Value), vs = v :: ws ∧ Is h v d ∧ IsL h ws l
theorem IsL.inv {h : Heap} {vs : List Value} {l : List D} (i : IsL h vs l) : ILI h vs l :=
  IsL.casesOn (motive_2 := fun vs l _ => ILI h vs l) i rfl (fun x y => ⟨_, _, rfl, x, y⟩)
theorem IsL.cinv {h : Heap} {v : Value} {vs : List Value} : ∀ {l : List D}, IsL h (v :: vs) l → ∃ d l', l = d :: l' ∧ Is h v d ∧ IsL h vs l'
  | [], i => by cases i.inv
  | d :: l, i => let ⟨_, _, e, a, b⟩ := i.inv; ⟨d, l, rfl, by cases e; exact a, by cases e; exact b⟩
theorem IsL.ind {h : Heap} {P : List Value → List D → Prop} (n : P [] []) (c : ∀ {v d vs l}, Is h v d → IsL h vs l → P vs l → P (v :: vs) (d :: l)) {vs : List Value} {l : List D} (i : IsL h vs l) : P vs l :=
  IsL.rec (motive_1 := fun _ _ _ => True) (motive_2 := fun vs l _ => P vs l) trivial (fun _ => trivial) (fun _ _ => trivial) (fun _ _ => trivial) (fun _ _ _ => trivial) (fun _ => trivial) (fun _ => trivial) (fun _ => trivial) (fun _ => trivial) n (fun x y _ z => c x y z) i
theorem Is.mono {h h' : Heap} (k : TupKeep h h') {v : Value} {d : D} (i : Is h v d) : Is h' v d :=
  Is.rec (motive_1 := fun v d _ => Is h' v d) (motive_2 := fun vs l _ => IsL h' vs l) .none .bool .int .str (fun e _ l => .tup (k.tup e) l) .ref .bi .ty (fun r => .rng (k.rng r)) .nil (fun _ _ => .cons) i
theorem IsL.mono {h h' : Heap} (k : TupKeep h h') {vs : List Value} {l : List D} (i : IsL h vs l) : IsL h' vs l :=
  i.ind .nil fun x _ z => .cons (x.mono k) z

theorem IsL.length {h : Heap} {vs : List Value} {l : List D} (z0 : IsL h vs l) : vs.length = l.length :=
  z0.ind (P := fun vs l => vs.length = l.length) rfl fun _ _ z => congrArg (· + 1) z
theorem IsL.append {h : Heap} {vs vs' : List Value} {l l' : List D} (z0 : IsL h vs l) (x : IsL h vs' l') : IsL h (vs ++ vs') (l ++ l') :=
  z0.ind (P := fun vs l => IsL h (vs ++ vs') (l ++ l')) x fun a _ z => .cons a z
theorem IsL.get {h : Heap} {vs : List Value} {l : List D} (z0 : IsL h vs l) : ∀ {i : Nat} {d : D}, l[i]? = some d → ∃ v, vs[i]? = some v ∧ Is h v d :=
  z0.ind (P := fun vs l => ∀ {i : Nat} {d : D}, l[i]? = some d → ∃ v, vs[i]? = some v ∧ Is h v d) (fun e => by cases e) (@fun v _ _ _ a _ z i d => match i with
    | 0 => fun e => ⟨v, rfl, Option.some.inj e ▸ a⟩
    | i + 1 => fun e => z (i := i) e)
theorem IsL.set {h : Heap} {vs : List Value} {l : List D} (z0 : IsL h vs l) : ∀ {i : Nat} {v : Value} {d : D}, Is h v d → IsL h (vs.set i v) (l.set i d) :=
  z0.ind (P := fun vs l => ∀ {i : Nat} {v : Value} {d : D}, Is h v d → IsL h (vs.set i v) (l.set i d)) (fun _ => .nil) (@fun _ _ _ _ a b z i _ _ e => match i with
    | 0 => .cons e b
    | _ + 1 => .cons a (z e))
theorem IsL.take {h : Heap} {vs : List Value} {l : List D} (z0 : IsL h vs l) : ∀ (i : Nat), IsL h (vs.take i) (l.take i) :=
  z0.ind (P := fun vs l => ∀ (i : Nat), IsL h (vs.take i) (l.take i)) (fun i => by rw [List.take_nil, List.take_nil]; exact .nil) fun a _ z i => match i with
    | 0 => .nil
    | i + 1 => .cons a (z i)
theorem IsL.reverse {h : Heap} {vs : List Value} {l : List D} (z0 : IsL h vs l) : IsL h vs.reverse l.reverse :=
  z0.ind (P := fun vs l => IsL h vs.reverse l.reverse) .nil fun a _ z => by rw [List.reverse_cons, List.reverse_cons]; exact z.append (.cons a .nil)
inductive Ent (P : Params) (h : Heap) : List DictEntry → List (D × D) → Prop
  | nil : Ent P h [] []
  | str {e : DictEntry} {s : Str} {t : Tok} {d : D} {es : List DictEntry} {l : List (D × D)} : e.key = .str s t → e.hash = PyData.keyHash P s → Is h e.val d → Ent P h es l → Ent P h (e :: es) ((.str s, d) :: l)
  | int {e : DictEntry} {i : Int} {t : Tok} {d : D} {es : List DictEntry} {l : List (D × D)} : e.key = .int i t → e.hash = hashInt i → Is h e.val d → Ent P h es l → Ent P h (e :: es) ((.int i, d) :: l)
theorem Ent.mono {P : Params} {h h' : Heap} (k : TupKeep h h') {es : List DictEntry} {l : List (D × D)} (i : Ent P h es l) : Ent P h' es l :=
  Ent.rec (motive := fun es l _ => Ent P h' es l) .nil (fun a b c _ z => .str a b (c.mono k) z) (fun a b c _ z => .int a b (c.mono k) z) i

noncomputable def Rep (P : Params) (h : Heap) (a : Addr) : X → Prop
  | .lst l => ∃ vs : List Value, h.PlainList a vs.toArray ∧ IsL h vs l
  | .dct l => ∃ (o : Obj) (es : List DictEntry) (n : Nat), h.get? a = some o ∧ o.ExactDict ∧ o.data = .dict es.toArray n ∧ Ent P h es l
  | .ins C dx => h.get? a = some (instObj C dx)
  | .ns m => ∃ mv, h.Ns a mv ∧ ∀ x d, m x = some d → ∃ v, mv x = some v ∧ Is h v d
  | .cel d => ∃ v, h.IsCell a v ∧ ∀ d', d = some d' → ∃ v', v = some v' ∧ Is h v' d'
  | .raw P _ => ∃ o, h.get? a = some o ∧ imm o = false ∧ P h o

theorem Rep.root {P : Params} {h : Heap} {a : Addr} {x : X} (r : Rep P h a x) : ∃ o, h.get? a = some o ∧ imm o = false := by
  cases x with
  | lst l => obtain ⟨vs, ⟨n, h1⟩, _⟩ := r; exact ⟨_, h1, (by decide : (Value.type "list" == Value.type "tuple") = false)⟩
  | dct l => obtain ⟨o, es, n, h1, h2, h3, _⟩ := r; exact ⟨o, h1, by unfold imm; rw [h3]⟩
  | ins C dx => exact ⟨_, r, rfl⟩
  | ns m => obtain ⟨mv, ⟨o, es, ep, h1, h2, _⟩, _⟩ := r; exact ⟨o, h1, by unfold imm; rw [h2]⟩
  | cel d => obtain ⟨v, ⟨o, h1, h2⟩, _⟩ := r; exact ⟨o, h1, by unfold imm; rw [h2]⟩
  | raw P hP => obtain ⟨o, h1, h2, _⟩ := r; exact ⟨o, h1, h2⟩

theorem Rep.move {P : Params} {h h' : Heap} {a : Addr} {x : X} (r : Rep P h a x) (k : TupKeep h h') (e : ∀ o, h.get? a = some o → h'.get? a = some o) : Rep P h' a x := by
  cases x with
  | lst l => obtain ⟨vs, ⟨n, h1⟩, r2⟩ := r; exact ⟨vs, ⟨n, e _ h1⟩, r2.mono k⟩
  | dct l => obtain ⟨o, es, n, h1, h2, h3, h4⟩ := r; exact ⟨o, es, n, e _ h1, h2, h3, h4.mono k⟩
  | ins C dx => exact e _ r
  | ns m => obtain ⟨mv, ⟨o, es, ep, h1, h2⟩, h3⟩ := r; exact ⟨mv, ⟨o, es, ep, e _ h1, h2⟩, fun x d q => let ⟨v, a, b⟩ := h3 x d q; ⟨v, a, b.mono k⟩⟩
  | cel d => obtain ⟨v, ⟨o, h1, h2⟩, h3⟩ := r; exact ⟨v, ⟨o, e _ h1, h2⟩, fun d' q => let ⟨v', a, b⟩ := h3 d' q; ⟨v', a, b.mono k⟩⟩
  | raw P hP => obtain ⟨o, h1, h2, h3⟩ := r; exact ⟨o, e _ h1, h2, hP _ _ _ k h3⟩

structure Gd where
  prog : Program
  w : World
  K : Frag
  p : Program
  loose : List Str
  mg : Str → Option Value
  mb : Str → Option Value
  sc : Addr
  si : List Int
structure TopOk (G : Gd) (B : Heap) : Prop where
  k : G.K.In B
  t : TopRead G.p G.loose G.mg G.mb B
  s : ∃ vs : List Value, B.IsList G.sc vs.toArray ∧ IntsAre vs G.si
theorem TopOk.keeps {G : Gd} {B B' : Heap} (T : TopOk G B) (k : ∀ b o, B.get? b = some o → B'.get? b = some o) : TopOk G B' := ⟨T.k.keeps k, T.t.keeps k, let ⟨vs, a, b⟩ := T.s; ⟨vs, a.at fun o e => k _ o e, b⟩⟩

structure Sat (G : Gd) (B : Heap) (H : Hp) (h : Heap) : Prop where
  keep : ∀ b o, B.get? b = some o → h.get? b = some o
  own : ∀ a x, H a = some x → B.get? a = none ∧ Rep G.w.params h a x
  low : ∃ b o, sysModules < b ∧ B.get? b = some o
  off : ∀ a x, H a = some x → (a == sysModules) = false

section
variable {G : Gd} {B : Heap} {H : Hp} {h h' : Heap} {a : Addr} {x x' : X}
theorem Sat.keeps (S : Sat G B H h) (k : ∀ b o, h.get? b = some o → h'.get? b = some o) : Sat G B H h' :=
  ⟨fun b o e => k b o (S.keep b o e), fun a x e => ⟨(S.own a x e).1, (S.own a x e).2.move (.keeps k) (k a)⟩, S.low, S.off⟩
theorem Sat.tupBut (S : Sat G B H h) (e : H a = some x) (hs : Heap.SameBut a h h') : TupKeep h h' := fun b o t q => by
  by_cases z : b = a
  · subst z
    obtain ⟨o', h1, h2⟩ := (S.own b x e).2.root
    rw [t] at h1; cases h1; rw [q] at h2; cases h2
  · exact (hs.2 b z).trans t
theorem Sat.upd (S : Sat G B H h) (e : H a = some x) (hs : Heap.SameBut a h h') (r : Rep G.w.params h' a x') : Sat G B (H.set a x') h' := by
  have k := S.tupBut e hs
  have ha := (S.own a x e).1
  refine ⟨fun b o q => (hs.2 b fun z => ?_).trans (S.keep b o q), fun b y q => ?_, S.low, fun b y q => ?_⟩
  · subst z; rw [ha] at q; cases q
  · by_cases z : b = a
    · subst z; rw [Hp.set_self] at q; cases q; exact ⟨ha, r⟩
    · rw [Hp.set_ne _ _ z] at q
      exact ⟨(S.own b y q).1, (S.own b y q).2.move k fun o e => (hs.2 b z).trans e⟩
  · by_cases z : b = a
    · subst z; exact S.off b x e
    · rw [Hp.set_ne _ _ z] at q; exact S.off b y q
theorem Sat.lt (S : Sat G B H h) (e : H a = some x) : a < h.objs.size := (S.own a x e).2.root.elim fun _ q => Heap.lt_size q.1
theorem Sat.fresh (S : Sat G B H h) (l : h.objs.size ≤ a) : H a = none := by
  cases q : H a with
  | none => rfl
  | some x => exact absurd (S.lt q) (Nat.not_lt.mpr l)
theorem Sat.baseFresh (S : Sat G B H h) (l : h.objs.size ≤ a) : B.get? a = none := by
  cases q : B.get? a with
  | none => rfl
  | some o => exact absurd (Heap.lt_size (S.keep _ _ q)) (Nat.not_lt.mpr l)
theorem Sat.new (S : Sat G B H h) (k : ∀ b o, h.get? b = some o → h'.get? b = some o) (l : h.objs.size ≤ a) (r : Rep G.w.params h' a x) : Sat G B (H.set a x) h' := by
  refine ⟨fun b o q => k _ _ (S.keep b o q), fun b y q => ?_, S.low, fun b y q => ?_⟩
  by_cases z : b = a
  · subst z; rw [Hp.set_self] at q; cases q; exact ⟨S.baseFresh l, r⟩
  · rw [Hp.set_ne _ _ z] at q; exact (S.keeps k).own b y q
  · by_cases z : b = a
    · subst z
      obtain ⟨c, o, h1, h2⟩ := S.low
      have := Heap.lt_size (S.keep _ _ h2)
      exact beq_eq_false_iff_ne.mpr (Nat.ne_of_gt (Nat.lt_of_lt_of_le (Nat.lt_trans h1 this) l))
    · rw [Hp.set_ne _ _ z] at q; exact S.off b y q
theorem Sat.forget {H' : Hp} (S : Sat G B H h) (k : ∀ a x, H' a = some x → H a = some x) : Sat G B H' h := ⟨S.keep, fun a x e => S.own a x (k a x e), S.low, fun a x e => S.off a x (k a x e)⟩

noncomputable def cut (p : Addr → Bool) (h : Heap) : Heap := ⟨h.objs.mapIdx fun i o => if p i then o else { o with data := .freed }, h.life⟩
theorem cut_get (p : Addr → Bool) (h : Heap) (b : Addr) : (cut p h).get? b = if p b then h.get? b else none := by
  unfold cut Heap.get?
  simp only [Array.getElem?_mapIdx]
  cases q : h.objs[b]? with
  | none => simp
  | some o => by_cases hp : p b = true <;> simp [hp]

theorem Sat.rebase (S : Sat G B (H.set a x) h) (ha : H a = none) (T : TopOk G B) : ∃ B', TopOk G B' ∧ Sat G B' H h ∧
    ∀ H' h', Sat G B' H' h' → TupKeep h h' → H' a = none ∧ Sat G B (H'.set a x) h' := by
  have own := S.own a x (Hp.set_self ..)
  obtain ⟨o, ho, _⟩ := own.2.root
  let B' := cut (fun b => (B.get? b).isSome || b == a) h
  have hB : ∀ b, B'.get? b = if ((B.get? b).isSome || b == a) then h.get? b else none := fun b => cut_get _ _ _
  have kB : ∀ b o, B.get? b = some o → B'.get? b = some o := fun b o e => by
    rw [hB, e]; simp only [Option.isSome_some, Bool.true_or, if_true]; exact S.keep b o e
  have aB : B'.get? a = some o := by rw [hB]; simp [ho]
  obtain ⟨lb, lo, l1, l2⟩ := S.low
  refine ⟨B', T.keeps kB, ⟨fun b o e => ?_, fun b y e => ?_, ⟨lb, lo, l1, kB _ _ l2⟩, fun b y e => ?_⟩, fun H' h' S' k => ⟨?_, fun b o e => S'.keep b o (kB b o e), fun b y e => ?_, S.low, fun b y e => ?_⟩⟩
  · rw [hB] at e; split at e
    · exact e
    · cases e
  · have ne : b ≠ a := fun z => by subst z; rw [ha] at e; cases e
    have z := S.own b y (by rw [Hp.set_ne _ _ ne]; exact e)
    exact ⟨by rw [hB, z.1]; simp [ne], z.2⟩
  · have ne : b ≠ a := fun z => by subst z; rw [ha] at e; cases e
    exact S.off b y (by rw [Hp.set_ne _ _ ne]; exact e)
  · cases q : H' a with
    | none => rfl
    | some y => have := (S'.own a y q).1; rw [aB] at this; cases this
  · by_cases z : b = a
    · subst z; rw [Hp.set_self] at e; cases e
      exact ⟨own.1, own.2.move k fun o' q => by rw [ho] at q; cases q; exact S'.keep _ _ aB⟩
    · rw [Hp.set_ne _ _ z] at e
      refine ⟨?_, (S'.own b y e).2⟩
      cases q : B.get? b with
      | none => rfl
      | some o' => have := (S'.own b y e).1; rw [kB _ _ q] at this; cases this
  · by_cases z : b = a
    · subst z; exact S.off b x (Hp.set_self ..)
    · rw [Hp.set_ne _ _ z] at e; exact S'.off b y e
end

structure Ok (A : Around) (n : Nat) : Prop where
  handled : A.handled = none
  depth : A.depth + n < recursionLimit
  units : A.units + 20 * n < cLine
theorem Ok.le {A : Around} {n k : Nat} (O : Ok A n) (h : k ≤ n) : Ok A k := ⟨O.handled, by have := O.depth; one_sign, by have := O.units; one_sign⟩

structure Step (s s' : Shared) : Prop where
  gens : s'.gens = s.gens
  drawn : s'.drawn = s.drawn
  os : s'.os = s.os
  tup : TupKeep s.heap s'.heap
theorem Step.refl (s : Shared) : Step s s := ⟨rfl, rfl, rfl, .refl _⟩
theorem Step.trans {s s' s'' : Shared} (x : Step s s') (y : Step s' s'') : Step s s'' := ⟨y.gens.trans x.gens, y.drawn.trans x.drawn, y.os.trans x.os, x.tup.trans y.tup⟩
theorem Step.mk' {s : Shared} {h : Heap} {t : Nat} (k : TupKeep s.heap h) : Step s { s with heap := h, toks := t } := ⟨rfl, rfl, rfl, k⟩
theorem Step.tok {s : Shared} {t : Nat} : Step s { s with toks := t } := ⟨rfl, rfl, rfl, .refl _⟩
theorem Step.hp {s : Shared} {h : Heap} (k : TupKeep s.heap h) : Step s { s with heap := h } := ⟨rfl, rfl, rfl, k⟩

inductive Got {α β : Type} (R : Heap → α → β → Prop) (G : Gd) (B : Heap) (s : Shared) (Q : β → Hp → Prop) (v : α) (s' : Shared) : Prop
  | mk (d : β) (H' : Hp) (r : R s'.heap v d) (S : Sat G B H' s'.heap) (st : Step s s') (q : Q d H')
noncomputable def At {α β : Type} (R : Heap → α → β → Prop) (G : Gd) (n : Nat) (H : Hp) (s : Shared) (t : Sem α) (Q : β → Hp → Prop) : Prop :=
  ∀ B A, TopOk G B → Ok A n → Sat G B H s.heap → wpAny (model G.prog G.w) A t (Got R G B s Q) (fun _ _ => False) s
inductive FrQ {β : Type} (L : Addr) (x : X) (Q : β → Hp → Prop) (d : β) (H' : Hp) : Prop
  | mk (H'' : Hp) (e : H' = H''.set L x) (n : H'' L = none) (q : Q d H'')
noncomputable abbrev Same {α : Type} (_ : Heap) (a b : α) : Prop := a = b

section
variable {α β γ δ : Type} {R : Heap → α → β → Prop} {R' : Heap → γ → δ → Prop} {G : Gd} {n k : Nat} {H : Hp} {s : Shared} {t : Sem α} {Q Q' : β → Hp → Prop}
theorem At.mono (h : At R G n H s t Q) (q : ∀ d H', Q d H' → Q' d H') : At R G n H s t Q' := fun B A T O S =>
  wpAny_mono (h B A T O S) (fun _ _ ⟨d, H', a, b, c, e⟩ => ⟨d, H', a, b, c, q _ _ e⟩) fun _ _ z => z
theorem At.le (h : At R G k H s t Q) (q : k ≤ n) : At R G n H s t Q := fun B A T O S => h B A T (O.le q) S
theorem At.frame {L : Addr} {x : X} (hL : H L = none) (h : At R G n H s t Q) : At R G n (H.set L x) s t (FrQ L x Q) := fun B A T O S => by
  obtain ⟨B', T', S', back⟩ := S.rebase hL T
  refine wpAny_mono (h B' A T' O S') (fun v s' ⟨d, H', a, b, c, e⟩ => ?_) fun _ _ z => z
  obtain ⟨h1, h2⟩ := back H' s'.heap b c.tup
  exact ⟨d, _, a, h2, c, H', rfl, h1, e⟩
end

end
section
set_option tactic.hygienic false

noncomputable abbrev FQ {β : Type} (L : Addr) (m : Loc) (Q : β → Hp → Prop) : β → Hp → Prop := FrQ L (.ns m) Q

noncomputable def Ev (G : Gd) (n : Nat) (env : Env) (m : Loc) (H : Hp) (e : Expr) (Q : D → Hp → Prop) : Prop :=
  ∀ s, H env.locals = none → At Is G n (H.set env.locals (.ns m)) s (eval e env) (FQ env.locals m Q)
noncomputable def EvB (G : Gd) (n : Nat) (env : Env) (m : Loc) (H : Hp) (e : Expr) (Q : Bool → Hp → Prop) : Prop :=
  ∀ s, H env.locals = none → At Same G n (H.set env.locals (.ns m)) s (isTrue e env (eval e env)) (FQ env.locals m Q)
noncomputable def EvL (G : Gd) (n : Nat) (env : Env) (m : Loc) (H : Hp) (pos : Pos) (es : List Expr) (Q : List D → Hp → Prop) : Prop :=
  ∀ s, H env.locals = none → At IsL G n (H.set env.locals (.ns m)) s (spliced (backTo pos (starEach es env))) (FQ env.locals m Q)

noncomputable def Bin (G : Gd) (n : Nat) (H : Hp) (op : Operator) (d1 d2 : D) (Q : D → Hp → Prop) : Prop := ∀ s v1 v2, Is s.heap v1 d1 → Is s.heap v2 d2 → At Is G n H s (binaryOp op v1 v2) Q
noncomputable def Una (G : Gd) (n : Nat) (H : Hp) (op : UnaryOp) (d : D) (Q : D → Hp → Prop) : Prop := ∀ s v, Is s.heap v d → At Is G n H s (unaryOp op v) Q
noncomputable def Cmp (G : Gd) (n : Nat) (H : Hp) (op : CmpOp) (d1 d2 : D) (Q : D → Hp → Prop) : Prop := ∀ s v1 v2, Is s.heap v1 d1 → Is s.heap v2 d2 → At Is G n H s (compareOp op v1 v2) Q
noncomputable def Tru (G : Gd) (n : Nat) (H : Hp) (d : D) (Q : Bool → Hp → Prop) : Prop := ∀ s v, Is s.heap v d → At Same G n H s (truthy v) Q
noncomputable def Get (G : Gd) (n : Nat) (H : Hp) (d : D) (name : Str) (Q : D → Hp → Prop) : Prop := ∀ s v, Is s.heap v d → At Is G n H s (getAttr v name true) Q
noncomputable def Item (G : Gd) (n : Nat) (H : Hp) (d1 d2 : D) (Q : D → Hp → Prop) : Prop := ∀ (value slice : Expr) s v1 v2, Is s.heap v1 d1 → Is s.heap v2 d2 → At Is G n H s (subscriptTail value slice v1 v2) Q
noncomputable def Cal (G : Gd) (n : Nat) (H : Hp) (f : Value) (ds : List D) (Q : D → Hp → Prop) : Prop := ∀ s vs, IsL s.heap vs ds → At Is G n H s (call f vs) Q

section
variable {G : Gd} {n : Nat} {env : Env} {m : Loc} {H : Hp} {Q : D → Hp → Prop} {QB : Bool → Hp → Prop} {QL : List D → Hp → Prop}

theorem Ev.mono {e : Expr} {Q' : D → Hp → Prop} (h : Ev G n env m H e Q) (q : ∀ d H', Q d H' → Q' d H') : Ev G n env m H e Q' :=
  fun s hL => (h s hL).mono fun d _ ⟨H'', a, b, c⟩ => ⟨H'', a, b, q _ _ c⟩
theorem EvB.mono {e : Expr} {Q' : Bool → Hp → Prop} (h : EvB G n env m H e QB) (q : ∀ d H', QB d H' → Q' d H') : EvB G n env m H e Q' :=
  fun s hL => (h s hL).mono fun d _ ⟨H'', a, b, c⟩ => ⟨H'', a, b, q _ _ c⟩
theorem EvL.mono {pos : Pos} {es : List Expr} {Q' : List D → Hp → Prop} (h : EvL G n env m H pos es QL) (q : ∀ d H', QL d H' → Q' d H') : EvL G n env m H pos es Q' :=
  fun s hL => (h s hL).mono fun d _ ⟨H'', a, b, c⟩ => ⟨H'', a, b, q _ _ c⟩

-- literals
theorem Ev.cnone {k pos} (q : Q .none H) : Ev G n env m H (.Constant .none k pos) Q := fun s hL B A T O S =>
  Constant_none ⟨_, _, .none, S, .refl _, H, rfl, hL, q⟩
theorem Ev.cbool {b k pos} (q : Q (.bool b) H) : Ev G n env m H (.Constant (.bool b) k pos) Q := fun s hL B A T O S =>
  Constant_bool ⟨_, _, .bool b, S, .refl _, H, rfl, hL, q⟩
theorem Ev.cint {i k pos} (q : Q (.int i) H) : Ev G n env m H (.Constant (.int i) k pos) Q := fun s hL B A T O S =>
  wpAny_Constant_int ⟨_, _, .int i _, S, .tok, H, rfl, hL, q⟩
theorem Ev.cstr {x k pos} (q : Q (.str x) H) : Ev G n env m H (.Constant (.str x) k pos) Q := fun s hL B A T O S =>
  Calls.Constant_str ⟨_, _, .str x _, S, .tok, H, rfl, hL, q⟩

-- names
theorem Ev.loc {x pos d} (hv : m x = some d) (q : Q d H) (hk : env.scope.kind = .function := by rfl) (hx : env.kindOf x = some .local := by rfl) (hd : (x == ("__debug__" : Str)) = false := by decide) :
    Ev G n env m H (.Name x pos) Q := fun s hL B A T O S => by
  obtain ⟨_, mv, hn, hm⟩ := S.own _ _ (Hp.set_self ..)
  obtain ⟨v, h1, h2⟩ := hm x d hv
  exact wpAny_Name (wpAny_loadName_local hk hx hn h1 ⟨d, _, h2, S, .refl _, H, rfl, hL, q⟩) hd
theorem Ev.cell {x pos d c} (hc : env.cells.lookup x = some c) (hH : H c = some (.cel (some d))) (q : Q d H) (hk : env.scope.kind = .function := by rfl) (hx : env.kindOf x = some .cell := by rfl) (hd : (x == ("__debug__" : Str)) = false := by decide) :
    Ev G n env m H (.Name x pos) Q := fun s hL B A T O S => by
  have ne : c ≠ env.locals := fun z => by rw [z, hL] at hH; cases hH
  obtain ⟨_, v, hn, hm⟩ := S.own c _ ((Hp.set_ne _ _ ne).trans hH)
  obtain ⟨v', rfl, h2⟩ := hm d rfl
  exact wpAny_Name (wpAny_loadName_cell hk hx hc hn ⟨d, _, h2, S, .refl _, H, rfl, hL, q⟩) hd
noncomputable def IsTop (G : Gd) (v : Value) (d : D) : Prop := ∀ B, TopOk G B → Is B v d
theorem IsTop.ref {G : Gd} {a : Addr} : IsTop G (.ref a) (.ref a) := fun _ _ => .ref a
theorem Ev.glob {x pos v d} (e : nsIn G.K mainGlobals x = some (some v)) (hd' : IsTop G v d) (q : Q d H) (hk : env.scope.kind = .function := by rfl) (hg : env.globals = mainGlobals := by rfl) (hx : env.kindOf x = some .globalImplicit := by rfl) (hd : (x == ("__debug__" : Str)) = false := by decide) :
    Ev G n env m H (.Name x pos) Q := fun s hL B A T O S =>
  Name_function_global hk hx (loadGlobal_global (env := env) (hg ▸ T.t.g.keeps S.keep) (mg_of T.k T.t.g e) ⟨d, _, (hd' B T).mono (.keeps S.keep), S, .refl _, H, rfl, hL, q⟩) hd
theorem Ev.built {x pos v d} (e : nsIn G.K mainGlobals x = some none) (hv : bootBuiltins x = some v) (hi : ∀ h, Is h v d) (q : Q d H) (hk : env.scope.kind = .function := by rfl) (hg : env.globals = mainGlobals := by rfl) (hb : env.builtins = builtinsNs := by rfl) (hn : x ≠ "__name__" := by decide)
    (hx : env.kindOf x = some .globalImplicit := by rfl) (hd : (x == ("__debug__" : Str)) = false := by decide) : Ev G n env m H (.Name x pos) Q := fun s hL B A T O S =>
  Name_function_global hk hx (loadGlobal_builtin (env := env) (hg ▸ T.t.g.keeps S.keep) (mg_none_of T.k T.t.g e) (hb ▸ T.t.b.keeps S.keep) ((T.t.builtins x hn).trans hv) ⟨d, _, hi _, S, .refl _, H, rfl, hL, q⟩) hd

-- operators
theorem Ev.bin {op l r pos} (h : Ev G n env m H l fun d1 H1 => Ev G n env m H1 r fun d2 H2 => Bin G n H2 op d1 d2 Q) : Ev G n env m H (.BinOp l op r pos) Q := by
  intro s hL B A T O S
  refine wpAny_BinOp (wpAny_mono (h s hL B A T O S) ?_ fun _ _ z => z)
  rintro v1 s1 ⟨d1, _, i1, S1, st1, H1, rfl, hL1, h1⟩
  refine wpAny_mono (h1 s1 hL1 B A T O S1) ?_ fun _ _ z => z
  rintro v2 s2 ⟨d2, _, i2, S2, st2, H2, rfl, hL2, h2⟩
  refine wpAny_mono ((h2 s2 v1 v2 (i1.mono st2.tup) i2).frame hL2 B A T O S2) ?_ fun _ _ z => z
  rintro v3 s3 ⟨d3, H3, i3, S3, st3, q⟩
  exact ⟨d3, H3, i3, S3, (st1.trans st2).trans st3, q⟩
theorem Ev.una {op x pos} (h : Ev G n env m H x fun d H1 => Una G n H1 op d Q) : Ev G n env m H (.UnaryOp op x pos) Q := by
  intro s hL B A T O S
  refine wpAny_UnaryOp (wpAny_mono (h s hL B A T O S) ?_ fun _ _ z => z)
  rintro v1 s1 ⟨d1, _, i1, S1, st1, H1, rfl, hL1, h1⟩
  refine wpAny_mono ((h1 s1 v1 i1).frame hL1 B A T O S1) ?_ fun _ _ z => z
  rintro v3 s3 ⟨d3, H3, i3, S3, st3, q⟩
  exact ⟨d3, H3, i3, S3, st1.trans st3, q⟩
theorem Ev.cmp {op l r pos} (h : Ev G n env m H l fun d1 H1 => Ev G n env m H1 r fun d2 H2 => Cmp G n H2 op d1 d2 Q) (hm : behindInMarks op r = false := by with_unfolding_all rfl) : Ev G n env m H (.Compare l [op] [r] pos) Q := by
  intro s hL B A T O S
  refine wpAny_Compare1 (wpAny_mono (h s hL B A T O S) ?_ fun _ _ z => z) hm
  rintro v1 s1 ⟨d1, _, i1, S1, st1, H1, rfl, hL1, h1⟩
  refine wpAny_mono (h1 s1 hL1 B A T O S1) ?_ fun _ _ z => z
  rintro v2 s2 ⟨d2, _, i2, S2, st2, H2, rfl, hL2, h2⟩
  refine wpAny_mono ((h2 s2 v1 v2 (i1.mono st2.tup) i2).frame hL2 B A T O S2) ?_ fun _ _ z => z
  rintro v3 s3 ⟨d3, H3, i3, S3, st3, q⟩
  exact ⟨d3, H3, i3, S3, (st1.trans st2).trans st3, q⟩
theorem EvB.cmp {op l r pos} (h : Ev G n env m H l fun d1 H1 => Ev G n env m H1 r fun d2 H2 => Cmp G n H2 op d1 d2 fun d3 H3 => Tru G n H3 d3 QB) (hm : behindInMarks op r = false := by with_unfolding_all rfl) : EvB G n env m H (.Compare l [op] [r] pos) QB := by
  intro s hL B A T O S
  refine wpAny_isTrue_Compare1 (wpAny_mono (h s hL B A T O S) ?_ fun _ _ z => z) hm
  rintro v1 s1 ⟨d1, _, i1, S1, st1, H1, rfl, hL1, h1⟩
  refine wpAny_mono (h1 s1 hL1 B A T O S1) ?_ fun _ _ z => z
  rintro v2 s2 ⟨d2, _, i2, S2, st2, H2, rfl, hL2, h2⟩
  refine wpAny_mono ((h2 s2 v1 v2 (i1.mono st2.tup) i2).frame hL2 B A T O S2) ?_ fun _ _ z => z
  rintro v3 s3 ⟨d3, _, i3, S3, st3, H3, rfl, hL3, h3⟩
  refine wpAny_mono ((h3 s3 v3 i3).frame hL3 B A T O S3) ?_ fun _ _ z => z
  rintro v4 s4 ⟨d4, H4, i4, S4, st4, q⟩
  exact ⟨d4, H4, i4, S4, ((st1.trans st2).trans st3).trans st4, q⟩
theorem EvB.not {x pos} (h : EvB G n env m H x fun b H1 => QB (!b) H1) : EvB G n env m H (.UnaryOp .Not x pos) QB := by
  intro s hL B A T O S
  refine isTrue_not (wpAny_mono (h s hL B A T O S) ?_ fun _ _ z => z)
  rintro c s1 ⟨_, _, rfl, S1, st1, H1, rfl, hL1, h1⟩
  exact ⟨_, _, rfl, S1, st1, H1, rfl, hL1, h1⟩
theorem EvB.and_nil {pos} (q : QB true H) : EvB G n env m H (.BoolOp .And [] pos) QB := fun s hL B A T O S => isTrue_and_nil ⟨_, _, rfl, S, .refl _, H, rfl, hL, q⟩
theorem EvB.or_nil {pos} (q : QB false H) : EvB G n env m H (.BoolOp .Or [] pos) QB := fun s hL B A T O S => isTrue_or_nil ⟨_, _, rfl, S, .refl _, H, rfl, hL, q⟩
theorem EvB.and {x rest pos} (h : EvB G n env m H x fun b H1 => (b = true → EvB G n env m H1 (.BoolOp .And rest pos) QB) ∧ (b = false → QB false H1)) : EvB G n env m H (.BoolOp .And (x :: rest) pos) QB := by
  intro s hL B A T O S
  refine isTrue_and (wpAny_mono (h s hL B A T O S) ?_ fun _ _ z => z)
  rintro c s1 ⟨_, _, rfl, S1, st1, H1, rfl, hL1, h1⟩
  cases c with
  | false => exact ⟨_, _, rfl, S1, st1, H1, rfl, hL1, h1.2 rfl⟩
  | true => exact wpAny_mono (h1.1 rfl s1 hL1 B A T O S1) (fun v s2 ⟨d, H', a, b, c, e⟩ => ⟨d, H', a, b, st1.trans c, e⟩) fun _ _ z => z
theorem EvB.or {x rest pos} (h : EvB G n env m H x fun b H1 => (b = true → QB true H1) ∧ (b = false → EvB G n env m H1 (.BoolOp .Or rest pos) QB)) : EvB G n env m H (.BoolOp .Or (x :: rest) pos) QB := by
  intro s hL B A T O S
  refine isTrue_or (wpAny_mono (h s hL B A T O S) ?_ fun _ _ z => z)
  rintro c s1 ⟨_, _, rfl, S1, st1, H1, rfl, hL1, h1⟩
  cases c with
  | true => exact ⟨_, _, rfl, S1, st1, H1, rfl, hL1, h1.1 rfl⟩
  | false => exact wpAny_mono (h1.2 rfl s1 hL1 B A T O S1) (fun v s2 ⟨d, H', a, b, c, e⟩ => ⟨d, H', a, b, st1.trans c, e⟩) fun _ _ z => z
theorem EvB.plain {e} (h : Ev G n env m H e fun d H1 => Tru G n H1 d QB) (he : isTrue e env (eval e env) = (do let v ← eval e env; standAt e.pos; holding [v] (truthy v)) := by rfl) : EvB G n env m H e QB := by
  intro s hL B A T O S
  refine isTrue_plain (wpAny_mono (h s hL B A T O S) ?_ fun _ _ z => z) he
  rintro v1 s1 ⟨d1, _, i1, S1, st1, H1, rfl, hL1, h1⟩
  refine wpAny_mono ((h1 s1 v1 i1).frame hL1 B A T O S1) ?_ fun _ _ z => z
  rintro v4 s4 ⟨d4, H4, i4, S4, st4, q⟩
  exact ⟨d4, H4, i4, S4, st1.trans st4, q⟩
theorem Ev.one {op e pos} (h : Ev G n env m H e Q) : Ev G n env m H (.BoolOp op [e] pos) Q := h
theorem Ev.and {e₁ e₂ rest pos} (h : Ev G n env m H e₁ fun d H1 => Tru G n H1 d fun b H2 => (b = true → Ev G n env m H2 (.BoolOp .And (e₂ :: rest) pos) Q) ∧ (b = false → Q d H2)) : Ev G n env m H (.BoolOp .And (e₁ :: e₂ :: rest) pos) Q := by
  intro s hL B A T O S
  refine BoolOp_and (wpAny_mono (h s hL B A T O S) ?_ fun _ _ z => z)
  rintro v1 s1 ⟨d1, _, i1, S1, st1, H1, rfl, hL1, h1⟩
  refine wpAny_mono ((h1 s1 v1 i1).frame hL1 B A T O S1) ?_ fun _ _ z => z
  rintro c s2 ⟨_, _, rfl, S2, st2, H2, rfl, hL2, h2⟩
  cases c with
  | false => exact ⟨_, _, i1.mono st2.tup, S2, st1.trans st2, H2, rfl, hL2, h2.2 rfl⟩
  | true => exact wpAny_mono (h2.1 rfl s2 hL2 B A T O S2) (fun v s2 ⟨d, H', a, b, c, e⟩ => ⟨d, H', a, b, (st1.trans st2).trans c, e⟩) fun _ _ z => z
theorem Ev.or {e₁ e₂ rest pos} (h : Ev G n env m H e₁ fun d H1 => Tru G n H1 d fun b H2 => (b = true → Q d H2) ∧ (b = false → Ev G n env m H2 (.BoolOp .Or (e₂ :: rest) pos) Q)) : Ev G n env m H (.BoolOp .Or (e₁ :: e₂ :: rest) pos) Q := by
  intro s hL B A T O S
  refine BoolOp_or (wpAny_mono (h s hL B A T O S) ?_ fun _ _ z => z)
  rintro v1 s1 ⟨d1, _, i1, S1, st1, H1, rfl, hL1, h1⟩
  refine wpAny_mono ((h1 s1 v1 i1).frame hL1 B A T O S1) ?_ fun _ _ z => z
  rintro c s2 ⟨_, _, rfl, S2, st2, H2, rfl, hL2, h2⟩
  cases c with
  | true => exact ⟨_, _, i1.mono st2.tup, S2, st1.trans st2, H2, rfl, hL2, h2.1 rfl⟩
  | false => exact wpAny_mono (h2.2 rfl s2 hL2 B A T O S2) (fun v s2 ⟨d, H', a, b, c, e⟩ => ⟨d, H', a, b, (st1.trans st2).trans c, e⟩) fun _ _ z => z
theorem Ev.ifx {test body orelse pos} (h : EvB G n env m H test fun b H1 => (b = true → Ev G n env m H1 body Q) ∧ (b = false → Ev G n env m H1 orelse Q)) : Ev G n env m H (.IfExp test body orelse pos) Q := by
  intro s hL B A T O S
  refine IfExp_ (wpAny_mono (h s hL B A T O S) ?_ fun _ _ z => z)
  rintro c s1 ⟨_, _, rfl, S1, st1, H1, rfl, hL1, h1⟩
  cases c with
  | true => exact wpAny_mono (h1.1 rfl s1 hL1 B A T O S1) (fun v s2 ⟨d, H', a, b, c, e⟩ => ⟨d, H', a, b, st1.trans c, e⟩) fun _ _ z => z
  | false => exact wpAny_mono (h1.2 rfl s1 hL1 B A T O S1) (fun v s2 ⟨d, H', a, b, c, e⟩ => ⟨d, H', a, b, st1.trans c, e⟩) fun _ _ z => z

-- chains of comparisons
noncomputable def Ch (G : Gd) (n : Nat) (env : Env) (m : Loc) (H : Hp) (pos : Pos) (d : D) (ops : List CmpOp) (rs : List Expr) (QB : Bool → Hp → Prop) : Prop :=
  ∀ s v, H env.locals = none → Is s.heap v d → At Same G n (H.set env.locals (.ns m)) s (testChain pos v ops (evalEach rs env)) (FQ env.locals m QB)
theorem EvB.chain {l op₁ op₂ ops r₁ r₂ rs pos} (h : Ev G n env m H l fun d H1 => Ch G n env m H1 pos d (op₁ :: op₂ :: ops) (r₁ :: r₂ :: rs) QB) (hm : lastMarks (op₁ :: op₂ :: ops) (r₁ :: r₂ :: rs) = false := by with_unfolding_all rfl) :
    EvB G n env m H (.Compare l (op₁ :: op₂ :: ops) (r₁ :: r₂ :: rs) pos) QB := by
  intro s hL B A T O S
  refine isTrue_chain (wpAny_mono (h s hL B A T O S) ?_ fun _ _ z => z) hm
  rintro v1 s1 ⟨d1, _, i1, S1, st1, H1, rfl, hL1, h1⟩
  exact wpAny_mono (h1 s1 v1 hL1 i1 B A T O S1) (fun v s2 ⟨d, H', a, b, c, e⟩ => ⟨d, H', a, b, st1.trans c, e⟩) fun _ _ z => z
theorem Ch.link {d op op' ops r r' rs pos} (h : Ev G n env m H r fun d2 H1 => Cmp G n H1 op d d2 fun d3 H2 => Tru G n H2 d3 fun b H3 => (b = true → Ch G n env m H3 pos d2 (op' :: ops) (r' :: rs) QB) ∧ (b = false → QB false H3)) :
    Ch G n env m H pos d (op :: op' :: ops) (r :: r' :: rs) QB := by
  intro s v hL i B A T O S
  show wpAny _ A (do
    let rv ← holding [v] (eval r env)
    standAt pos
    let c ← holding [v, rv] (compareOp op v rv)
    release [v, rv] [c]
    if ← holding [c, rv] (truthy c) then testChain pos rv (op' :: ops) (evalEach (r' :: rs) env) else pure false) _ _ s
  refine wpAny_bind (wpAny_holding (wpAny_mono (h s hL B A T O S) ?_ fun _ _ z => z))
  rintro v2 s2 ⟨d2, _, i2, S2, st2, H2, rfl, hL2, h2⟩
  refine wpAny_bind (wpAny_standAt (wpAny_bind (wpAny_holding (wpAny_mono ((h2 s2 v v2 (i.mono st2.tup) i2).frame hL2 B A T O S2) ?_ fun _ _ z => z))))
  rintro v3 s3 ⟨d3, _, i3, S3, st3, H3, rfl, hL3, h3⟩
  refine wpAny_bind (wpAny_release' (wpAny_bind (wpAny_holding (wpAny_mono ((h3 s3 v3 i3).frame hL3 B A T O S3) ?_ fun _ _ z => z))))
  rintro c s4 ⟨_, _, rfl, S4, st4, H4, rfl, hL4, h4⟩
  cases c with
  | false => exact wpAny_pure ⟨_, _, rfl, S4, (st2.trans st3).trans st4, H4, rfl, hL4, h4.2 rfl⟩
  | true => exact wpAny_mono (h4.1 rfl s4 v2 hL4 (i2.mono (st3.trans st4).tup) B A T O S4) (fun v s2 ⟨d, H', a, b, c, e⟩ => ⟨d, H', a, b, ((st2.trans st3).trans st4).trans c, e⟩) fun _ _ z => z
theorem Ch.last {d op r pos} (h : Ev G n env m H r fun d2 H1 => Cmp G n H1 op d d2 fun d3 H2 => Tru G n H2 d3 QB) : Ch G n env m H pos d [op] [r] QB := by
  intro s v hL i B A T O S
  show wpAny _ A (do
    let rv ← holding [v] (eval r env)
    standAt pos
    let c ← operate [v, rv] (compareOp op v rv)
    holding [c] (truthy c)) _ _ s
  refine wpAny_bind (wpAny_holding (wpAny_mono (h s hL B A T O S) ?_ fun _ _ z => z))
  rintro v2 s2 ⟨d2, _, i2, S2, st2, H2, rfl, hL2, h2⟩
  refine wpAny_bind (wpAny_standAt (wpAny_bind (wpAny_operate' (wpAny_mono ((h2 s2 v v2 (i.mono st2.tup) i2).frame hL2 B A T O S2) ?_ fun _ _ z => z))))
  rintro v3 s3 ⟨d3, _, i3, S3, st3, H3, rfl, hL3, h3⟩
  refine wpAny_holding (wpAny_mono ((h3 s3 v3 i3).frame hL3 B A T O S3) ?_ fun _ _ z => z)
  rintro c s4 ⟨d4, H4, i4, S4, st4, q⟩
  exact ⟨d4, H4, i4, S4, (st2.trans st3).trans st4, q⟩

-- attributes, items
theorem Ev.attr {value attr pos} (h : Ev G n env m H value fun d H1 => Get G n H1 d attr Q)
    (he : eval (.Attribute value attr pos) env = (do
      let o ← eval value env
      standAt pos.atName
      let r ← holding [o] (getAttr o attr true)
      letTemporaryGo value o r
      pure r) := by with_unfolding_all rfl) : Ev G n env m H (.Attribute value attr pos) Q := by
  intro s hL B A T O S
  refine Attribute_any_ (wpAny_mono (h s hL B A T O S) ?_ fun _ _ z => z) he
  rintro v1 s1 ⟨d1, _, i1, S1, st1, H1, rfl, hL1, h1⟩
  refine wpAny_mono ((h1 s1 v1 i1).frame hL1 B A T O S1) ?_ fun _ _ z => z
  rintro v3 s3 ⟨d3, H3, i3, S3, st3, q⟩
  exact ⟨d3, H3, i3, S3, st1.trans st3, q⟩
theorem Ev.item {value slice pos} (h : Ev G n env m H value fun d1 H1 => Ev G n env m H1 slice fun d2 H2 => Item G n H2 d1 d2 Q) : Ev G n env m H (.Subscript value slice pos) Q := by
  intro s hL B A T O S
  refine Subscript_ (wpAny_mono (h s hL B A T O S) ?_ fun _ _ z => z)
  rintro v1 s1 ⟨d1, _, i1, S1, st1, H1, rfl, hL1, h1⟩
  refine wpAny_mono (h1 s1 hL1 B A T O S1) ?_ fun _ _ z => z
  rintro v2 s2 ⟨d2, _, i2, S2, st2, H2, rfl, hL2, h2⟩
  refine wpAny_mono ((h2 value slice s2 v1 v2 (i1.mono st2.tup) i2).frame hL2 B A T O S2) ?_ fun _ _ z => z
  rintro v3 s3 ⟨d3, H3, i3, S3, st3, q⟩
  exact ⟨d3, H3, i3, S3, (st1.trans st2).trans st3, q⟩

-- lists of expressions, displays
theorem EvL.nil {pos} (q : QL [] H) : EvL G n env m H pos [] QL := fun s hL B A T O S => args_nil ⟨_, _, .nil, S, .refl _, H, rfl, hL, q⟩
theorem EvL.cons {e rest pos} (h : Ev G n env m H e fun d H1 => EvL G n env m H1 pos rest fun ds H2 => QL (d :: ds) H2) (he : starEach (e :: rest) env = (false, eval e env) :: starEach rest env := by rfl) :
    EvL G n env m H pos (e :: rest) QL := by
  intro s hL B A T O S
  refine args_cons (wpAny_mono (h s hL B A T O S) ?_ fun _ _ z => z) he
  rintro v1 s1 ⟨d1, _, i1, S1, st1, H1, rfl, hL1, h1⟩
  refine wpAny_mono (h1 s1 hL1 B A T O S1) ?_ fun _ _ z => z
  rintro vs s2 ⟨ds, _, i2, S2, st2, H2, rfl, hL2, h2⟩
  exact ⟨_, _, .cons (i1.mono st2.tup) i2, S2, st1.trans st2, H2, rfl, hL2, h2⟩
theorem push_keeps (h : Heap) (o : Obj) : ∀ b o', h.get? b = some o' → (h.push o).get? b = some o' := fun _ _ e => Heap.get?_push_of_some _ e
theorem Ev.tup {es k pos} (h : EvL G n env m H pos es fun ds H1 => ds.length ≤ sizeLine ∧ Q (.tup ds) H1) : Ev G n env m H (.Tuple es k pos) Q := by
  intro s hL B A T O S
  refine Tuple_ (wpAny_mono (h s hL B A T O S) ?_ fun _ _ z => z)
  rintro vs s1 ⟨ds, _, i1, S1, st1, H1, rfl, hL1, h1⟩
  refine wpAny_newObj_type ?_ (by show vs.toArray.size ≤ sizeLine; rw [List.size_toArray, i1.length]; exact h1.1)
  have kp := push_keeps s1.heap { cls := .type "tuple", data := .seq vs.toArray }
  exact ⟨_, _, .tup (IsTup.new _ _) (i1.mono (.keeps kp)), S1.keeps kp, st1.trans (.hp (.keeps kp)), H1, rfl, hL1, h1.2⟩
theorem Ev.lst {es pos} (h : EvL G n env m H pos es fun ds H1 => ds.length ≤ sizeLine ∧ ∀ a, H1 a = none → a ≠ env.locals → Q (.ref a) (H1.set a (.lst ds))) : Ev G n env m H (.List es pos) Q := by
  intro s hL B A T O S
  refine List_ (wpAny_mono (h s hL B A T O S) ?_ fun _ _ z => z)
  rintro vs s1 ⟨ds, _, i1, S1, st1, H1, rfl, hL1, h1⟩
  refine wpAny_newObj_type ?_ (by show vs.toArray.size ≤ sizeLine; rw [List.size_toArray, i1.length]; exact h1.1)
  have kp := push_keeps s1.heap { cls := .type "list", data := .seq vs.toArray }
  have hf := S1.fresh (Nat.le_refl _)
  have ne : s1.heap.objs.size ≠ env.locals := fun z => by rw [z, Hp.set_self] at hf; cases hf
  rw [Hp.set_ne _ _ ne] at hf
  refine ⟨_, _, .ref _, S1.new (x := .lst ds) kp (Nat.le_refl _) ⟨vs, ⟨_, Heap.get?_push_size _ rfl⟩, i1.mono (.keeps kp)⟩, st1.trans (.hp (.keeps kp)), H1.set s1.heap.objs.size (.lst ds), Hp.set_comm _ _ _ (Ne.symm ne), ?_, h1.2 _ hf ne⟩
  rw [Hp.set_ne _ _ (Ne.symm ne)]; exact hL1

-- calls
theorem Ev.callD {x p e rest pos f} (hk : keepIn G.K (.ref f) = true) (h : Ev G n env m H (.Name x p) fun d H1 => d = .ref f ∧ EvL G n env m H1 pos (e :: rest) fun ds H2 => Cal G n H2 (.ref f) ds Q)
    (he : starEach (e :: rest) env = (false, eval e env) :: starEach rest env := by rfl) (hp : (backTo pos (starEach rest env)).any (·.1) = false := by rfl) :
    Ev G n env m H (.Call (.Name x p) (e :: rest) [] pos) Q := by
  intro s hL B A T O S
  refine Call_Name rfl (wpAny_mono (h s hL B A T O S) ?_ fun _ _ z => z)
  rintro v1 s1 ⟨_, _, i1, S1, st1, H1, rfl, hL1, rfl, h1⟩
  (first | (replace i1 := i1.inv; obtain rfl := i1) | (replace i1 := i1.inv; obtain ⟨_, rfl⟩ := i1) | cases i1)
  refine callWith_K (T.k.keeps S1.keep) hk (wpAny_mono (h1 s1 hL1 B A T O S1) ?_ fun _ _ z => z) he hp
  rintro vs s2 ⟨ds, _, i2, S2, st2, H2, rfl, hL2, h2⟩
  refine ⟨T.k.keeps S2.keep, wpAny_mono ((h2 s2 vs i2).frame hL2 B A T O S2) ?_ fun _ _ z => z⟩
  rintro v3 s3 ⟨d3, H3, i3, S3, st3, q⟩
  exact ⟨d3, H3, i3, S3, (st1.trans st2).trans st3, q⟩
theorem Ev.callD0 {x p pos f} (hk : keepIn G.K (.ref f) = true) (h : Ev G n env m H (.Name x p) fun d H1 => d = .ref f ∧ Cal G n H1 (.ref f) [] Q) : Ev G n env m H (.Call (.Name x p) [] [] pos) Q := by
  intro s hL B A T O S
  refine Call_Name rfl (wpAny_mono (h s hL B A T O S) ?_ fun _ _ z => z)
  rintro v1 s1 ⟨_, _, i1, S1, st1, H1, rfl, hL1, rfl, h1⟩
  (first | (replace i1 := i1.inv; obtain rfl := i1) | (replace i1 := i1.inv; obtain ⟨_, rfl⟩ := i1) | cases i1)
  refine callWith_K0 (T.k.keeps S1.keep) hk (wpAny_mono ((h1 s1 [] .nil).frame hL1 B A T O S1) ?_ fun _ _ z => z)
  rintro v3 s3 ⟨d3, H3, i3, S3, st3, q⟩
  exact ⟨d3, H3, i3, S3, st1.trans st3, q⟩
theorem Ev.callB {x p e rest pos id} (h : Ev G n env m H (.Name x p) fun d H1 => d = .bi id ∧ EvL G n env m H1 pos (e :: rest) fun ds H2 => Cal G n H2 (.builtin id) ds Q)
    (he : starEach (e :: rest) env = (false, eval e env) :: starEach rest env := by rfl) (hp : (backTo pos (starEach rest env)).any (·.1) = false := by rfl) :
    Ev G n env m H (.Call (.Name x p) (e :: rest) [] pos) Q := by
  intro s hL B A T O S
  refine Call_Name rfl (wpAny_mono (h s hL B A T O S) ?_ fun _ _ z => z)
  rintro v1 s1 ⟨_, _, i1, S1, st1, H1, rfl, hL1, rfl, h1⟩
  (first | (replace i1 := i1.inv; obtain rfl := i1) | (replace i1 := i1.inv; obtain ⟨_, rfl⟩ := i1) | cases i1)
  refine callWith_builtin1 (wpAny_mono (h1 s1 hL1 B A T O S1) ?_ fun _ _ z => z) he hp
  rintro vs s2 ⟨ds, _, i2, S2, st2, H2, rfl, hL2, h2⟩
  refine wpAny_mono ((h2 s2 vs i2).frame hL2 B A T O S2) ?_ fun _ _ z => z
  rintro v3 s3 ⟨d3, H3, i3, S3, st3, q⟩
  exact ⟨d3, H3, i3, S3, (st1.trans st2).trans st3, q⟩
theorem Ev.callT {x p e rest pos id} (h : Ev G n env m H (.Name x p) fun d H1 => d = .ty id ∧ EvL G n env m H1 pos (e :: rest) fun ds H2 => Cal G n H2 (.type id) ds Q)
    (he : starEach (e :: rest) env = (false, eval e env) :: starEach rest env := by rfl) (hp : (backTo pos (starEach rest env)).any (·.1) = false := by rfl) :
    Ev G n env m H (.Call (.Name x p) (e :: rest) [] pos) Q := by
  intro s hL B A T O S
  refine Call_Name rfl (wpAny_mono (h s hL B A T O S) ?_ fun _ _ z => z)
  rintro v1 s1 ⟨_, _, i1, S1, st1, H1, rfl, hL1, rfl, h1⟩
  (first | (replace i1 := i1.inv; obtain rfl := i1) | (replace i1 := i1.inv; obtain ⟨_, rfl⟩ := i1) | cases i1)
  refine callWith_type1 (wpAny_mono (h1 s1 hL1 B A T O S1) ?_ fun _ _ z => z) he hp
  rintro vs s2 ⟨ds, _, i2, S2, st2, H2, rfl, hL2, h2⟩
  refine wpAny_mono ((h2 s2 vs i2).frame hL2 B A T O S2) ?_ fun _ _ z => z
  rintro v3 s3 ⟨d3, H3, i3, S3, st3, q⟩
  exact ⟨d3, H3, i3, S3, (st1.trans st2).trans st3, q⟩
end

end
section
set_option tactic.hygienic false

inductive Fl where
  | next | brk | cont
  | ret (d : D)
inductive IsF (h : Heap) : Flow → Fl → Prop
  | next : IsF h .next .next
  | brk : IsF h .brk .brk
  | cont : IsF h .cont .cont
  | ret {v : Value} {d : D} : Is h v d → IsF h (.ret v) (.ret d)
noncomputable def retOf : Fl → D
  | .ret d => d
  | _ => .none

inductive FS {β : Type} (L : Addr) (Q : β → Loc → Hp → Prop) (b : β) (H' : Hp) : Prop
  | mk (m' : Loc) (H'' : Hp) (e : H' = H''.set L (.ns m')) (n : H'' L = none) (q : Q b m' H'')
noncomputable def Ex (G : Gd) (n : Nat) (env : Env) (m : Loc) (H : Hp) (ss : List Stmt) (Q : Fl → Loc → Hp → Prop) : Prop :=
  ∀ s, H env.locals = none → At IsF G n (H.set env.locals (.ns m)) s (execs ss env) (FS env.locals Q)
noncomputable def Ex1 (G : Gd) (n : Nat) (env : Env) (m : Loc) (H : Hp) (st : Stmt) (Q : Fl → Loc → Hp → Prop) : Prop :=
  ∀ s, H env.locals = none → At IsF G n (H.set env.locals (.ns m)) s (exec st env) (FS env.locals Q)
noncomputable def Asg (G : Gd) (n : Nat) (env : Env) (m : Loc) (H : Hp) (t : Expr) (d : D) (Q : Loc → Hp → Prop) : Prop :=
  ∀ s v, H env.locals = none → Is s.heap v d → At Same G n (H.set env.locals (.ns m)) s (assign t env v) (FS env.locals fun _ => Q)
noncomputable def AsgL (G : Gd) (n : Nat) (env : Env) (m : Loc) (H : Hp) (ts : List Expr) (ds : List D) (Q : Loc → Hp → Prop) : Prop :=
  ∀ s vs, H env.locals = none → IsL s.heap vs ds → At Same G n (H.set env.locals (.ns m)) s (assignInOrder ((assignEach ts env).map (·.2)) vs) (FS env.locals fun _ => Q)
noncomputable def SetA (G : Gd) (n : Nat) (H : Hp) (o : D) (name : Str) (d : D) (Q : Hp → Prop) : Prop := ∀ s v1 v2, Is s.heap v1 o → Is s.heap v2 d → At Same G n H s (setAttr v1 name v2) fun _ => Q
noncomputable def SetI (G : Gd) (n : Nat) (H : Hp) (o i : D) (d : D) (Q : Hp → Prop) : Prop := ∀ s v1 v2 v3, Is s.heap v1 o → Is s.heap v2 i → Is s.heap v3 d → At Same G n H s (setItem v1 v2 v3) fun _ => Q

noncomputable def Thn (G : Gd) (n : Nat) (env : Env) (rest : List Stmt) (Q : Fl → Loc → Hp → Prop) : Fl → Loc → Hp → Prop
  | .next, m, H => Ex G n env m H rest Q
  | f, m, H => Q f m H

section
variable {G : Gd} {n : Nat} {env : Env} {m : Loc} {H : Hp} {Q Q' : Fl → Loc → Hp → Prop} {QA : Loc → Hp → Prop} {rest : List Stmt}

theorem Ex.mono {ss} (h : Ex G n env m H ss Q) (q : ∀ f m' H', Q f m' H' → Q' f m' H') : Ex G n env m H ss Q' := fun s hL => (h s hL).mono fun d _ ⟨m', H'', a, b, c⟩ => ⟨m', H'', a, b, q _ _ _ c⟩
theorem Ex.nil (q : Q .next m H) : Ex G n env m H [] Q := fun s hL B A T O S => wpAny_execs_nil ⟨_, _, .next, S, .refl _, m, H, rfl, hL, q⟩
theorem Ex.cons {st} (h : Ex1 G n env m H st (Thn G n env rest Q)) : Ex G n env m H (st :: rest) Q := by
  intro s hL B A T O S
  refine wpAny_execs_cons (wpAny_mono (h s hL B A T O S) ?_ fun _ _ z => z)
  rintro f s1 ⟨fl, _, i, S1, st1, m1, H1, rfl, hL1, h1⟩
  cases i with
  | next => exact wpAny_mono (h1 s1 hL1 B A T O S1) (fun v s2 ⟨d, H', a, b, c, e⟩ => ⟨d, H', a, b, st1.trans c, e⟩) fun _ _ z => z
  | brk => exact ⟨_, _, .brk, S1, st1, m1, H1, rfl, hL1, h1⟩
  | cont => exact ⟨_, _, .cont, S1, st1, m1, H1, rfl, hL1, h1⟩
  | ret j => exact ⟨_, _, .ret j, S1, st1, m1, H1, rfl, hL1, h1⟩

theorem Ex.ret {e pos} (h : Ev G n env m H e fun d H1 => Q (.ret d) m H1) : Ex G n env m H (.Return (some e) pos :: rest) Q := Ex.cons fun s hL B A T O S => by
  refine wpAny_Return_some (wpAny_mono (h s hL B A T O S) ?_ fun _ _ z => z)
  rintro v s1 ⟨d, _, i, S1, st1, H1, rfl, hL1, h1⟩
  exact ⟨_, _, .ret i, S1, st1, m, H1, rfl, hL1, h1⟩
theorem Ex.cont {pos} (h : Q .cont m H) : Ex G n env m H (.Continue pos :: rest) Q := Ex.cons fun s hL B A T O S =>
  wpAny_Continue ⟨_, _, .cont, S, .refl _, m, H, rfl, hL, h⟩
theorem Ex.ite {test body orelse pos} (h : EvB G n env m H test fun b H1 => (b = true → Ex G n env m H1 body (Thn G n env rest Q)) ∧ (b = false → Ex G n env m H1 orelse (Thn G n env rest Q))) :
    Ex G n env m H (.If test body orelse pos :: rest) Q := Ex.cons fun s hL B A T O S => by
  refine wpAny_If (wpAny_mono (h s hL B A T O S) ?_ fun _ _ z => z)
  rintro c s1 ⟨_, _, rfl, S1, st1, H1, rfl, hL1, h1⟩
  cases c with
  | true => exact wpAny_mono (h1.1 rfl s1 hL1 B A T O S1) (fun v s2 ⟨d, H', a, b, c, e⟩ => ⟨d, H', a, b, st1.trans c, e⟩) fun _ _ z => z
  | false => exact wpAny_mono (h1.2 rfl s1 hL1 B A T O S1) (fun v s2 ⟨d, H', a, b, c, e⟩ => ⟨d, H', a, b, st1.trans c, e⟩) fun _ _ z => z
theorem Ex.expr {e pos} (h : Ev G n env m H e fun _ H1 => Ex G n env m H1 rest Q) (hi : interactive env = false := by rfl) (hs : swapsWith e none pos.line env = pure false := by rfl) :
    Ex G n env m H (.Expr e pos :: rest) Q := Ex.cons fun s hL B A T O S => by
  refine wpAny_Expr_any (wpAny_mono (h s hL B A T O S) ?_ fun _ _ z => z) hi hs
  rintro v s1 ⟨d, _, i, S1, st1, H1, rfl, hL1, h1⟩
  exact ⟨_, _, .next, S1, st1, m, H1, rfl, hL1, h1⟩

-- stores
theorem sto_local {x d} {s : Shared} {v : Value} {B : Heap} {A : Around} (hL : H env.locals = none) (S : Sat G B (H.set env.locals (.ns m)) s.heap) (i : Is s.heap v d) (hk : env.scope.kind = .function) (hx : env.kindOf x = some .local) :
    wpAny (model G.prog G.w) A (storeName env x v) (fun _ s' => Sat G B (H.set env.locals (.ns (lset m x d))) s'.heap ∧ Step s s') (fun _ _ => False) s := by
  obtain ⟨_, mv, hn, hm⟩ := S.own _ _ (Hp.set_self ..)
  refine wpAny_storeName_local hx hn (fun h' hn' hs => ?_) (by rw [hk]; rfl)
  have k := S.tupBut (Hp.set_self ..) hs
  have S' := S.upd (x' := .ns (lset m x d)) (Hp.set_self ..) hs ⟨_, hn', fun y d' q => ?_⟩
  · rw [Hp.set_set] at S'
    exact ⟨S', .mk' k⟩
  · unfold lset at q
    by_cases hy : y = x
    · subst hy; rw [if_pos rfl] at q; cases q; exact ⟨v, by simp, i.mono k⟩
    · rw [if_neg hy] at q
      obtain ⟨u, a, b⟩ := hm y d' q
      exact ⟨u, by simp [hy, a], b.mono k⟩
theorem Asg.name {x pos d} (q : QA (lset m x d) H) (hk : env.scope.kind = .function := by rfl) (hx : env.kindOf x = some .local := by rfl) : Asg G n env m H (.Name x pos) d QA := fun s v hL i B A T O S =>
  wpAny_assign_Name (wpAny_mono (sto_local hL S i hk hx) (fun _ s' ⟨a, b⟩ => ⟨_, _, rfl, a, b, _, H, rfl, hL, q⟩) fun _ _ z => z)
theorem sto_cell {x d c d₀} {s : Shared} {v : Value} {B : Heap} {A : Around} (hL : H env.locals = none) (S : Sat G B (H.set env.locals (.ns m)) s.heap) (i : Is s.heap v d) (hc : env.cells.lookup x = some c) (hH : H c = some (.cel d₀)) (hk : env.scope.kind = .function) (hx : env.kindOf x = some .cell) :
    wpAny (model G.prog G.w) A (storeName env x v) (fun _ s' => Sat G B ((H.set c (.cel (some d))).set env.locals (.ns m)) s'.heap ∧ Step s s') (fun _ _ => False) s := by
  have ne : c ≠ env.locals := fun z => by rw [z, hL] at hH; cases hH
  obtain ⟨_, v₀, hn, hm⟩ := S.own c _ ((Hp.set_ne _ _ ne).trans hH)
  refine wpAny_storeName_cell hk hx hc hn fun h' hv hs => ?_
  have k := S.tupBut ((Hp.set_ne _ _ ne).trans hH) hs
  have S' := S.upd (x' := .cel (some d)) ((Hp.set_ne _ _ ne).trans hH) hs ⟨_, hv, fun d' q => by cases q; exact ⟨v, rfl, i.mono k⟩⟩
  rw [Hp.set_comm _ _ _ (Ne.symm ne)] at S'
  exact ⟨S', .hp k⟩
theorem Asg.ncell {x pos d c d₀} (hc : env.cells.lookup x = some c) (hH : H c = some (.cel d₀)) (q : QA m (H.set c (.cel (some d)))) (hk : env.scope.kind = .function := by rfl) (hx : env.kindOf x = some .cell := by rfl) : Asg G n env m H (.Name x pos) d QA := fun s v hL i B A T O S =>
  wpAny_assign_Name (wpAny_mono (sto_cell hL S i hc hH hk hx) (fun _ s' ⟨a, b⟩ => ⟨_, _, rfl, a, b, _, _, rfl, by
    have ne : c ≠ env.locals := fun z => by rw [z, hL] at hH; cases hH
    rw [Hp.set_ne _ _ (Ne.symm ne)]; exact hL, q⟩) fun _ _ z => z)
theorem AsgL.nil (q : QA m H) : AsgL G n env m H [] [] QA := fun s vs hL i B A T O S => by
  (first | (replace i := i.inv; obtain rfl := i) | (replace i := i.inv; obtain ⟨_, rfl⟩ := i) | cases i); exact wpAny_pure ⟨_, _, rfl, S, .refl _, m, H, rfl, hL, q⟩
theorem AsgL.cons {t ts d ds} (h : Asg G n env m H t d fun m1 H1 => AsgL G n env m1 H1 ts ds QA) (he : assignEach (t :: ts) env = (false, assign t env) :: assignEach ts env := by rfl) : AsgL G n env m H (t :: ts) (d :: ds) QA := fun s vs hL i B A T O S => by
  replace i := i.inv; obtain ⟨v, vs, rfl, i, j⟩ := i
  rw [he]
  show wpAny _ A (holding vs (assign t env v) >>= fun _ => assignInOrder ((assignEach ts env).map (·.2)) vs) _ _ s
  refine wpAny_bind (wpAny_holding <| wpAny_mono (h s _ hL i B A T O S) ?_ fun _ _ z => z)
  rintro _ s1 ⟨_, _, _, S1, st1, m1, H1, rfl, hL1, h1⟩
  exact wpAny_mono (h1 s1 _ hL1 (j.mono st1.tup) B A T O S1) (fun v s2 ⟨d, H', a, b, c, e⟩ => ⟨d, H', a, b, st1.trans c, e⟩) fun _ _ z => z
theorem Asg.tup {elts k pos ds} (h : AsgL G n env m H elts ds QA) (hl : elts.length = ds.length := by rfl) (hf : (assignEach elts env).findIdx? (·.1) = none := by rfl) (hll : (assignEach elts env).length = elts.length := by rfl) : Asg G n env m H (.Tuple elts k pos) (.tup ds) QA := fun s v hL i B A T O S => by
  replace i := i.inv; obtain ⟨a, vs, rfl, ht, j⟩ := i
  show wpAny _ A (do standAt pos; unpack (.ref a) (assignEach elts env)) _ _ s
  refine wpAny_bind (wpAny_standAt ?_)
  unfold unpack
  rw [hf, hll]
  refine wpAny_bind (wpAny_holding ?_)
  have e : elts.length = vs.toArray.size := by rw [List.size_toArray, j.length, hl]
  rw [e]
  refine unpackItems_tuple O.handled ht fun h' he => ?_
  have k : ∀ b o, s.heap.get? b = some o → h'.get? b = some o := fun b o q => he b o (Nat.ne_of_lt (Heap.lt_size q)) q
  exact wpAny_mono (h _ _ hL (j.mono (.keeps k)) B A T O (S.keeps k)) (fun v s2 ⟨d, H', a, b, c, e⟩ => ⟨d, H', a, b, Step.trans (.hp (.keeps k)) c, e⟩) fun _ _ z => z

theorem Ex.asg {x pos' value pos} (h : Ev G n env m H value fun d H1 => Asg G n env m H1 (.Name x pos') d fun m2 H2 => Ex G n env m2 H2 rest Q) (hs : swapsWith value (some (.Name x pos')) pos.line env = pure false := by rfl) :
    Ex G n env m H (.Assign [.Name x pos'] value pos :: rest) Q := Ex.cons fun s hL B A T O S => by
  have e : exec (.Assign [.Name x pos'] value pos) env = (do standAt pos; let v ← eval value env; assign (.Name x pos') env v; pure .next) := by
    rw [PySem.exec_Assign_Name env x pos' value pos hs]; rfl
  rw [e]
  refine wpAny_bind (wpAny_standAt (wpAny_bind (wpAny_mono (h s hL B A T O S) ?_ fun _ _ z => z)))
  rintro v s1 ⟨d, _, i, S1, st1, H1, rfl, hL1, h1⟩
  refine wpAny_bind (wpAny_mono (h1 s1 v hL1 i B A T O S1) ?_ fun _ _ z => z)
  rintro _ s2 ⟨_, _, _, S2, st2, m2, H2, rfl, hL2, h2⟩
  exact wpAny_pure ⟨_, _, .next, S2, st1.trans st2, m2, H2, rfl, hL2, h2⟩
theorem Ex.asgT {elts k tpos value pos} (h : Ev G n env m H value fun d H1 => Asg G n env m H1 (.Tuple elts k tpos) d fun m2 H2 => Ex G n env m2 H2 rest Q)
    (hs : swapsWithSole [.Tuple elts k tpos] value pos.line env = pure false := by rfl) (hw : swappedStores [.Tuple elts k tpos] value env = pure none := by rfl) :
    Ex G n env m H (.Assign [.Tuple elts k tpos] value pos :: rest) Q := Ex.cons fun s hL B A T O S => by
  refine Assign_Tuple (wpAny_mono (h s hL B A T O S) ?_ fun _ _ z => z) hs hw
  rintro v s1 ⟨d, _, i, S1, st1, H1, rfl, hL1, h1⟩
  refine wpAny_mono (h1 s1 v hL1 i B A T O S1) ?_ fun _ _ z => z
  rintro _ s2 ⟨_, _, _, S2, st2, m2, H2, rfl, hL2, h2⟩
  exact ⟨_, _, .next, S2, st1.trans st2, m2, H2, rfl, hL2, h2⟩
noncomputable def StoL (G : Gd) (n : Nat) (env : Env) (m : Loc) (H : Hp) : List Str → List D → (Loc → Hp → Prop) → Prop
  | [], _, Q => Q m H
  | x :: xs, d :: ds, Q => env.scope.kind = .function ∧ env.kindOf x = some .local ∧ StoL G n env (lset m x d) H xs ds Q
  | _ :: _, [], _ => False
theorem sto_list (xs : List Str) : ∀ {ds : List D} {vs : List Value} {m : Loc} {s : Shared} {B : Heap} {A : Around} {QA : Loc → Hp → Prop}, StoL G n env m H xs ds QA → xs.length = ds.length → IsL s.heap vs ds → H env.locals = none → Sat G B (H.set env.locals (.ns m)) s.heap →
    wpAny (model G.prog G.w) A (assignInOrder (xs.map fun x => bindName env x) vs) (fun _ s' => ∃ m', Sat G B (H.set env.locals (.ns m')) s'.heap ∧ Step s s' ∧ QA m' H) (fun _ _ => False) s := by
  induction xs with
  | nil =>
    intro ds vs m s B A QA h hl i hL S
    exact wpAny_pure ⟨m, S, .refl _, h⟩
  | cons x xs ih =>
    intro ds vs m s B A QA h hl i hL S
    cases i with
    | nil => cases hl
    | @cons v d vs ds i j =>
    obtain ⟨hk, hx, h⟩ := h
    show wpAny _ A (holding vs (bindName env x v) >>= fun _ => assignInOrder (xs.map fun x => bindName env x) vs) _ _ s
    refine wpAny_bind (wpAny_holding (wpAny_bindName (wpAny_mono (sto_local hL S i hk hx) ?_ fun _ _ z => z)))
    intro _ s1 q
    have l : xs.length = ds.length := Nat.succ.inj hl
    exact wpAny_mono (ih h l (j.mono q.2.tup) hL q.1) (fun _ s2 ⟨m', a, b, c⟩ => ⟨m', a, q.2.trans b, c⟩) fun _ _ z => z
theorem Ex.asgS {elts k tpos value pos names} (h : Ev G n env m H value fun d H1 => ∃ ds, d = .tup ds ∧ names.length = ds.length ∧ StoL G n env m H1 names.reverse ds.reverse fun m2 H2 => Ex G n env m2 H2 rest Q)
    (hs : swapsWithSole [.Tuple elts k tpos] value pos.line env = pure false := by rfl) (hw : swappedStores [.Tuple elts k tpos] value env = pure (some names) := by rfl) :
    Ex G n env m H (.Assign [.Tuple elts k tpos] value pos :: rest) Q := Ex.cons fun s hL B A T O S => by
  refine Assign_Tuple_swapped (names := names) (wpAny_mono (h s hL B A T O S) ?_ fun _ _ z => z) hs hw
  rintro v s1 ⟨_, _, i, S1, st1, H1, rfl, hL1, ds, rfl, hl, h1⟩
  replace i := i.inv; obtain ⟨a, vs, rfl, ht, j⟩ := i
  have e : names.length = vs.toArray.size := by rw [List.size_toArray, j.length, hl]
  rw [e]
  refine unpackItems_tuple O.handled ht fun h' he => ?_
  have k : ∀ b o, s1.heap.get? b = some o → h'.get? b = some o := fun b o q => he b o (Nat.ne_of_lt (Heap.lt_size q)) q
  refine wpAny_mono (sto_list names.reverse h1 (by simpa using hl) (s := { s1 with heap := h' }) (j.mono (.keeps k)).reverse hL1 (S1.keeps k)) ?_ fun _ _ z => z
  rintro _ s2 ⟨m', S2, st2, h2⟩
  exact ⟨_, _, .next, S2, st1.trans (Step.trans (.hp (.keeps k)) st2), m', H1, rfl, hL1, h2⟩
theorem Ex.asgA {o attr pos' value pos} (h : Ev G n env m H value fun d H1 => Ev G n env m H1 o fun d2 H2 => SetA G n H2 d2 attr d fun H3 => Ex G n env m H3 rest Q)
    (hs : swapsWith value (some (.Attribute o attr pos')) pos.line env = pure false := by rfl) : Ex G n env m H (.Assign [.Attribute o attr pos'] value pos :: rest) Q := Ex.cons fun s hL B A T O S => by
  refine plainObj_wpAny_Assign_Attribute (wpAny_mono (h s hL B A T O S) ?_ fun _ _ z => z) hs
  rintro v1 s1 ⟨d1, _, i1, S1, st1, H1, rfl, hL1, h1⟩
  refine wpAny_mono (h1 s1 hL1 B A T O S1) ?_ fun _ _ z => z
  rintro v2 s2 ⟨d2, _, i2, S2, st2, H2, rfl, hL2, h2⟩
  refine wpAny_mono ((h2 s2 v2 v1 i2 (i1.mono st2.tup)).frame hL2 B A T O S2) ?_ fun _ _ z => z
  rintro _ s3 ⟨_, _, _, S3, st3, H3, rfl, hL3, h3⟩
  exact ⟨_, _, .next, S3, (st1.trans st2).trans st3, m, H3, rfl, hL3, h3⟩
theorem Ex.asgI {o i pos' value pos} (h : Ev G n env m H value fun d H1 => Ev G n env m H1 o fun d2 H2 => Ev G n env m H2 i fun d3 H3 => SetI G n H3 d2 d3 d fun H4 => Ex G n env m H4 rest Q)
    (hs : swapsWith value (some (.Subscript o i pos')) pos.line env = pure false := by rfl) : Ex G n env m H (.Assign [.Subscript o i pos'] value pos :: rest) Q := Ex.cons fun s hL B A T O S => by
  refine wpAny_Assign_Subscript (wpAny_mono (h s hL B A T O S) ?_ fun _ _ z => z) hs
  rintro v1 s1 ⟨d1, _, i1, S1, st1, H1, rfl, hL1, h1⟩
  refine wpAny_mono (h1 s1 hL1 B A T O S1) ?_ fun _ _ z => z
  rintro v2 s2 ⟨d2, _, i2, S2, st2, H2, rfl, hL2, h2⟩
  refine wpAny_mono (h2 s2 hL2 B A T O S2) ?_ fun _ _ z => z
  rintro v3 s3 ⟨d3, _, i3, S3, st3, H3, rfl, hL3, h3⟩
  refine wpAny_mono ((h3 s3 v2 v3 v1 (i2.mono st3.tup) i3 (i1.mono (st2.trans st3).tup)).frame hL3 B A T O S3) ?_ fun _ _ z => z
  rintro _ s4 ⟨_, _, _, S4, st4, H4, rfl, hL4, h4⟩
  exact ⟨_, _, .next, S4, ((st1.trans st2).trans st3).trans st4, m, H4, rfl, hL4, h4⟩
end

-- the call of a def
noncomputable def locOf (ks : List Str) (es : List D) : Loc := fun x => (ks.zip es).reverse.lookup x
theorem zip_lookup {h : Heap} : ∀ {ks : List Str} {ws : List Value} {es : List D}, IsL h ws es → ∀ {acc : List (Str × Value)} {acc' : List (Str × D)},
    (∀ x d, acc'.lookup x = some d → ∃ v, acc.lookup x = some v ∧ Is h v d) → (∀ x, acc'.lookup x = none → acc.lookup x = none) →
    (∀ x d, ((ks.zip es).reverse ++ acc').lookup x = some d → ∃ v, ((ks.zip ws).reverse ++ acc).lookup x = some v ∧ Is h v d) := by
  intro ks
  induction ks with
  | nil => intro ws es i acc acc' h1 h2; simpa using h1
  | cons k ks ih =>
    intro ws es i acc acc' h1 h2
    cases i with
    | nil => simpa using h1
    | @cons w e ws es i j =>
      simp only [List.zip_cons_cons, List.reverse_cons, List.append_assoc, List.singleton_append]
      refine ih j (fun x d q => ?_) (fun x q => ?_)
      · rw [List.lookup_cons] at q ⊢
        cases hx : x == k with
        | true => rw [hx] at q; cases q; exact ⟨w, rfl, i⟩
        | false => rw [hx] at q; exact h1 x d q
      · rw [List.lookup_cons] at q ⊢
        cases hx : x == k with
        | true => rw [hx] at q; cases q
        | false => rw [hx] at q; exact h2 x q
theorem locOf_rep {h : Heap} {ks : List Str} {ws : List Value} {es : List D} (i : IsL h ws es) {x : Str} {d : D} (e : locOf ks es x = some d) : ∃ v, (ks.zip ws).reverse.lookup x = some v ∧ Is h v d := by
  have := zip_lookup (ks := ks) i (acc := []) (acc' := []) (fun x d q => by cases q) (fun _ _ => rfl) x d (by simpa [locOf] using e)
  simpa using this

theorem Ok.deeper {A : Around} {n : Nat} (O : Ok A (n + 1)) (env : Env) : Ok (A.deeper env) n := ⟨O.handled, by show A.depth + 1 + n < _; have := O.depth; one_sign, by show A.units + 3 + 20 * n < _; have := O.units; one_sign⟩

theorem Cal.fn {G : Gd} {n : Nat} {H : Hp} {Q : D → Hp → Prop} {f : Addr} {name qual : Str} {params : Arguments} {body : List Stmt} {scope : Scope} {dV kV doc pm cdv ct oc : Value} {an od : Option Addr} {osl : Array (Option Value)} {ds es : List D} (ks : List Str)
    (ho : G.K.lookup f = some ⟨oc, od, .func (fnOf name qual params body scope dV kV doc pm an cdv ct), osl⟩) (hcd : codeIn G.K cdv qual = true)
    (hbind : ∀ B, TopOk G B → ∀ s vs, (∀ b o, B.get? b = some o → s.heap.get? b = some o) → IsL s.heap vs ds → ∃ ws, BindsTo s (fnOf name qual params body scope dV kV doc pm an cdv ct) ⟨vs, []⟩ (ks.zip ws) ∧ IsL s.heap ws es)
    (h : ∀ L, H L = none → Ex G n (envX qual scope L f cdv []) (locOf ks es) H body fun fl _ H' => Q (retOf fl) H')
    (hcell : ∀ x ∈ scope.names, x.2 ≠ .cell := by decide) (hloc : ∀ k ∈ ks, scope.names.lookup k = some .local := by decide)
    (hco : scope.isCoroutine = false := by rfl) (hgen : scope.isGenerator = false := by rfl) (hk : scope.kind = .function := by rfl) : Cal G (n + 1) H (.ref f) ds Q := by
  intro s vs i B A T O S
  obtain ⟨ws, hb, j⟩ := hbind B T s vs S.keep i
  have hroom : A.depth < recursionLimit := by have := O.depth; one_sign
  refine wpAny_call (codeAny_call_def (fd := fnOf name qual params body scope dV kV doc pm an cdv ct) (body := body) hroom (T.k.keeps S.keep _ _ ho) rfl (T.t.nolimit.keeps S.keep) (codeRec_of (T.k.keeps S.keep) hcd) rfl hb hcell
    (fun x hx => hloc x.1 (List.of_mem_zip hx).1) (fun h₁ hns hk₁ => ?_) hco hgen hk)
  have hL := S.fresh (Nat.le_refl _)
  have S1 : Sat G B (H.set s.heap.objs.size (.ns (locOf ks es))) h₁ := S.new hk₁ (Nat.le_refl _) ⟨_, hns, fun x d e => let ⟨v, a, b⟩ := locOf_rep j e; ⟨v, a, b.mono (.keeps hk₁)⟩⟩
  refine wpAny_mono (h s.heap.objs.size hL _ hL B _ T (O.deeper _) S1) ?_ fun _ _ z => z.elim
  rintro f' s' ⟨fl, _, i', S', st', m', H', rfl, hL', q⟩
  have fin : ∀ {v d}, Is s'.heap v d → Q d H' → Got Is G B s Q v s' := fun {v d} a b =>
    ⟨d, H', a, S'.forget fun a x e => by
      by_cases z : a = s.heap.objs.size
      · subst z; rw [show H' s.heap.objs.size = none from hL'] at e; cases e
      · exact (Hp.set_ne _ _ z).trans e, Step.trans (.mk' (.keeps hk₁)) st', b⟩
  cases i' with
  | next => exact fin .none q
  | brk => exact fin .none q
  | cont => exact fin .none q
  | ret a => exact fin a q

end
section
set_option tactic.hygienic false

-- equality of data
noncomputable def sq : D → D → Bool
  | .none, .none => true
  | .bool a, .bool b => a == b
  | .int a, .int b => a == b
  | .str a, .str b => a == b
  | _, _ => false
noncomputable def sk : D → D → Bool
  | .none, .none => true
  | .bool _, .bool _ => true
  | .int _, .int _ => true
  | .str _, .str _ => true
  | .none, .str _ => true
  | .str _, .none => true
  | .none, .int _ => true
  | .int _, .none => true
  | .int _, .str _ => true
  | .str _, .int _ => true
  | _, _ => false
noncomputable def tq (l r : List D) : Bool := l.length == r.length && (l.zip r).all fun p => sq p.1 p.2
noncomputable def tk (l r : List D) : Bool := (l.zip r).all fun p => sk p.1 p.2
noncomputable def deq : D → D → Bool
  | .tup l, .tup r => tq l r
  | d, e => sq d e
noncomputable def dk : D → D → Bool
  | .tup l, .tup r => tk l r
  | d, e => sk d e

section
variable {A : Around} {s : Shared} {v w : Value} {d e : D}
theorem sc2 {P : Value → Value → Bool → Prop} {h : Heap} (i : Is h v d) (j : Is h w e) (hk : sk d e = true) (p0 : P .none .none true) (p1 : ∀ i t, P .none (.int i t) false) (p2 : ∀ x t, P .none (.str x t) false) (p3 : ∀ a b, P (.bool a) (.bool b) (a == b))
    (p4 : ∀ i t, P (.int i t) .none false) (p5 : ∀ i t j u, P (.int i t) (.int j u) (i == j)) (p6 : ∀ i t x u, P (.int i t) (.str x u) false) (p7 : ∀ x t, P (.str x t) .none false) (p8 : ∀ x t j u, P (.str x t) (.int j u) false) (p9 : ∀ x t y u, P (.str x t) (.str y u) (x == y)) : P v w (sq d e) := by
  have z1 := i.inv
  have z2 := j.inv
  unfold sk at hk
  split at hk
  · cases z1; cases z2; exact p0
  · cases z1; cases z2; exact p3 _ _
  · obtain ⟨_, rfl⟩ := z1; obtain ⟨_, rfl⟩ := z2; exact p5 _ _ _ _
  · obtain ⟨_, rfl⟩ := z1; obtain ⟨_, rfl⟩ := z2; exact p9 _ _ _ _
  · cases z1; obtain ⟨_, rfl⟩ := z2; exact p2 _ _
  · obtain ⟨_, rfl⟩ := z1; cases z2; exact p7 _ _
  · cases z1; obtain ⟨_, rfl⟩ := z2; exact p1 _ _
  · obtain ⟨_, rfl⟩ := z1; cases z2; exact p4 _ _
  · obtain ⟨_, rfl⟩ := z1; obtain ⟨_, rfl⟩ := z2; exact p6 _ _ _ _
  · obtain ⟨_, rfl⟩ := z1; obtain ⟨_, rfl⟩ := z2; exact p8 _ _ _ _
  · cases hk
theorem RcAt.sc (i : Is s.heap v d) (j : Is s.heap w e) (h : sk d e = true) : RcAt A s v w (sq d e) :=
  sc2 (P := RcAt A s) i j h RcAt.none_none RcAt.none_int RcAt.none_str RcAt.bool_bool RcAt.int_none RcAt.int_int RcAt.int_str RcAt.str_none RcAt.str_int RcAt.str_str
theorem EqAt.sc (i : Is s.heap v d) (j : Is s.heap w e) (h : sk d e = true) : EqAt A s v w (sq d e) :=
  sc2 (P := EqAt A s) i j h (EqAt.same _) EqAt.none_int EqAt.none_str EqAt.bool_bool EqAt.int_none EqAt.int_int EqAt.int_str EqAt.str_none EqAt.str_int EqAt.str_str
theorem RcNeAt.sc (i : Is s.heap v d) (j : Is s.heap w e) (h : sk d e = true) : RcNeAt A s v w (!sq d e) :=
  sc2 (P := fun v w b => RcNeAt A s v w (!b)) i j h RcNeAt.none_none RcNeAt.none_int RcNeAt.none_str RcNeAt.bool_bool RcNeAt.int_none RcNeAt.int_int RcNeAt.int_str RcNeAt.str_none RcNeAt.str_int RcNeAt.str_str
theorem zipAll {l r : List D} {e : D → D → Bool} : ((List.range (min l.length r.length)).all fun j => e (l.getD j .none) (r.getD j .none)) = (l.zip r).all fun p => e p.1 p.2 := by
  induction l generalizing r with
  | nil => simp
  | cons a l ih =>
    cases r with
    | nil => simp
    | cons b r =>
      have q : min (a :: l).length (b :: r).length = min l.length r.length + 1 := by simp only [List.length_cons]; one_sign
      rw [q, List.range_succ_eq_map, List.all_cons, List.all_map, List.zip_cons_cons, List.all_cons, ← ih]
      rfl
theorem tk_at {l r : List D} (h : tk l r = true) {j : Nat} (h1 : j < l.length) (h2 : j < r.length) : sk l[j] r[j] = true := by
  have z := List.all_eq_true.mp h (l[j], r[j]) (by
    rw [List.mem_iff_getElem]
    exact ⟨j, by rw [List.length_zip]; one_sign, by simp⟩)
  exact z
theorem IsL.at {h : Heap} {vs : List Value} {l : List D} (i : IsL h vs l) {j : Nat} (h1 : j < vs.length) (h2 : j < l.length) : Is h vs[j] l[j] := by
  obtain ⟨v, a, b⟩ := i.get (i := j) (d := l[j]) (by simp [h2])
  have : v = vs[j] := by simpa [List.getElem?_eq_getElem h1] using a.symm
  exact this ▸ b
theorem eq_items {vs ws : List Value} {l r : List D} (i : IsL s.heap vs l) (j : IsL s.heap ws r) (h : tk l r = true) :
    ∀ k (h1 : k < vs.toArray.size) (h2 : k < ws.toArray.size), EqAt A s vs.toArray[k] ws.toArray[k] (sq (l.getD k .none) (r.getD k .none)) := by
  intro k h1 h2
  rw [List.size_toArray] at h1 h2
  have l1 : k < l.length := i.length ▸ h1
  have l2 : k < r.length := j.length ▸ h2
  have z := EqAt.sc (A := A) (i.at h1 l1) (j.at h2 l2) (tk_at h l1 l2)
  simpa [List.getD_eq_getElem?_getD, List.getElem?_eq_getElem l1, List.getElem?_eq_getElem l2] using z
theorem tupOf {h : Heap} {a : Addr} {vs : Array Value} (t : IsTup h a vs) : h.IsTuple a vs := t
theorem RcAt.tup {l r : List D} (i : Is s.heap v (.tup l)) (j : Is s.heap w (.tup r)) (hu : A.units < cLine) (h : tk l r = true) : RcAt A s v w (tq l r) := by
  replace i := i.inv; obtain ⟨a, vs, rfl, t, i⟩ := i; replace j := j.inv; obtain ⟨b, ws, rfl, u, j⟩ := j
  have z := RcAt.tuples (tupOf t) (tupOf u) hu (e := fun k => sq (l.getD k .none) (r.getD k .none)) (eq_items i j h)
  rw [List.size_toArray, List.size_toArray, i.length, j.length, zipAll (e := sq), Bool.and_comm] at z
  exact z
theorem RcNeAt.tup {l r : List D} (i : Is s.heap v (.tup l)) (j : Is s.heap w (.tup r)) (hu : A.units < cLine) (h : tk l r = true) : RcNeAt A s v w (!tq l r) := by
  replace i := i.inv; obtain ⟨a, vs, rfl, t, i⟩ := i; replace j := j.inv; obtain ⟨b, ws, rfl, u, j⟩ := j
  have z := RcNeAt.tuples (tupOf t) (tupOf u) hu (e := fun k => sq (l.getD k .none) (r.getD k .none)) (eq_items i j h)
  rw [List.size_toArray, List.size_toArray, i.length, j.length, zipAll (e := sq), Bool.and_comm] at z
  exact z
theorem sq_of {h : Heap} (i : Is h v d) (j : Is h v e) (q : sk d e = true) : sq d e = true :=
  sc2 (P := fun v w b => v = w → b = true) i j q (fun _ => rfl) (fun _ _ e => by cases e) (fun _ _ e => by cases e) (fun _ _ e => by cases e; exact beq_self_eq_true _) (fun _ _ e => by cases e) (fun _ _ _ _ e => by cases e; exact beq_self_eq_true _) (fun _ _ _ _ e => by cases e) (fun _ _ e => by cases e) (fun _ _ _ _ e => by cases e) (fun _ _ _ _ e => by cases e; exact beq_self_eq_true _) rfl
theorem tq_of {h : Heap} {vs : List Value} : ∀ {l r : List D}, IsL h vs l → IsL h vs r → tk l r = true → tq l r = true := by
  induction vs with
  | nil => intro l r i j _; (first | (replace i := i.inv; obtain rfl := i) | (replace i := i.inv; obtain ⟨_, rfl⟩ := i) | cases i); (first | (replace j := j.inv; obtain rfl := j) | (replace j := j.inv; obtain ⟨_, rfl⟩ := j) | cases j); rfl
  | cons v vs ih =>
    intro l r i j h
    replace i := i.cinv; obtain ⟨_, _, rfl, a, i⟩ := i; replace j := j.cinv; obtain ⟨_, _, rfl, b, j⟩ := j
    unfold tk at h
    rw [List.zip_cons_cons, List.all_cons, Bool.and_eq_true] at h
    have z := ih i j h.2
    unfold tq at z ⊢
    rw [Bool.and_eq_true] at z
    rw [List.zip_cons_cons, List.all_cons, z.2, sq_of a b h.1]
    simpa using z.1
theorem EqAt.tup {l r : List D} (i : Is s.heap v (.tup l)) (j : Is s.heap w (.tup r)) (hu : A.units < cLine) (h : tk l r = true) : EqAt A s v w (tq l r) := by
  have z := RcAt.tup i j hu h
  replace i := i.inv; obtain ⟨a, vs, rfl, t, i⟩ := i; replace j := j.inv; obtain ⟨b, ws, rfl, u, j⟩ := j
  by_cases q : a = b
  · subst q
    obtain ⟨o, h1, h2, n, h3⟩ := t
    obtain ⟨o', h1', h2', n', h3'⟩ := u
    rw [h1] at h1'; cases h1'
    rw [h3] at h3'
    have e : vs = ws := by injection h3' with e _; simpa using e
    subst e
    rw [tq_of i j h]; exact EqAt.same _
  · exact EqAt.of_refs q z
theorem RcAt.dt (i : Is s.heap v d) (j : Is s.heap w e) (hu : A.units < cLine) (h : dk d e = true) : RcAt A s v w (deq d e) := by
  cases d <;> cases e <;> first | exact RcAt.sc i j h | exact RcAt.tup i j hu h
theorem RcNeAt.dt (i : Is s.heap v d) (j : Is s.heap w e) (hu : A.units < cLine) (h : dk d e = true) : RcNeAt A s v w (!deq d e) := by
  cases d <;> cases e <;> first | exact RcNeAt.sc i j h | exact RcNeAt.tup i j hu h
theorem EqAt.dt (i : Is s.heap v d) (j : Is s.heap w e) (hu : A.units < cLine) (h : dk d e = true) : EqAt A s v w (deq d e) := by
  cases d <;> cases e <;> first | exact EqAt.sc i j h | exact EqAt.tup i j hu h
theorem eq_itemsD {vs ws : List Value} {l r : List D} (i : IsL s.heap vs l) (j : IsL s.heap ws r) (hu : A.units < cLine) (h : ((l.zip r).all fun p => dk p.1 p.2) = true) :
    ∀ k (h1 : k < vs.toArray.size) (h2 : k < ws.toArray.size), EqAt A s vs.toArray[k] ws.toArray[k] (deq (l.getD k .none) (r.getD k .none)) := by
  intro k h1 h2
  rw [List.size_toArray] at h1 h2
  have l1 : k < l.length := i.length ▸ h1
  have l2 : k < r.length := j.length ▸ h2
  have z := EqAt.dt (A := A) (i.at h1 l1) (j.at h2 l2) hu (List.all_eq_true.mp h (l[k], r[k]) (by
    rw [List.mem_iff_getElem]; exact ⟨k, by rw [List.length_zip]; one_sign, by simp⟩))
  simpa [List.getD_eq_getElem?_getD, List.getElem?_eq_getElem l1, List.getElem?_eq_getElem l2] using z
end

theorem Ok.room {A : Around} {n : Nat} (O : Ok A n) (h : 1 ≤ n) : A.units + 10 < cLine := by have := O.units; one_sign
theorem Ok.u {A : Around} {n : Nat} (O : Ok A n) : A.units < cLine := by have := O.units; one_sign

section
variable {G : Gd} {n : Nat} {H : Hp} {Q : D → Hp → Prop} {QB : Bool → Hp → Prop}
-- truth
theorem Tru.none (q : QB false H) : Tru G n H .none QB := fun s v i B A T O S => by (first | (replace i := i.inv; obtain rfl := i) | (replace i := i.inv; obtain ⟨_, rfl⟩ := i) | cases i); exact truthy_none ⟨_, _, rfl, S, .refl _, q⟩
theorem Tru.bool {b} (q : QB b H) : Tru G n H (.bool b) QB := fun s v i B A T O S => by (first | (replace i := i.inv; obtain rfl := i) | (replace i := i.inv; obtain ⟨_, rfl⟩ := i) | cases i); exact wpAny_truthy_bool ⟨_, _, rfl, S, .refl _, q⟩
-- ints
theorem Bin.addI {a b} (q : Q (.int (a + b)) H) : Bin G n H .Add (.int a) (.int b) Q := fun s v w i j B A T O S => by (first | (replace i := i.inv; obtain rfl := i) | (replace i := i.inv; obtain ⟨_, rfl⟩ := i) | cases i); (first | (replace j := j.inv; obtain rfl := j) | (replace j := j.inv; obtain ⟨_, rfl⟩ := j) | cases j); exact P.add_int ⟨_, _, .int _ _, S, .tok, q⟩
theorem Bin.subI {a b} (q : Q (.int (a - b)) H) : Bin G n H .Sub (.int a) (.int b) Q := fun s v w i j B A T O S => by (first | (replace i := i.inv; obtain rfl := i) | (replace i := i.inv; obtain ⟨_, rfl⟩ := i) | cases i); (first | (replace j := j.inv; obtain rfl := j) | (replace j := j.inv; obtain ⟨_, rfl⟩ := j) | cases j); exact P.sub_int ⟨_, _, .int _ _, S, .tok, q⟩
theorem Bin.mulI {a b} (hm : IntMulOk a b) (q : Q (.int (a * b)) H) : Bin G n H .Mult (.int a) (.int b) Q := fun s v w i j B A T O S => by (first | (replace i := i.inv; obtain rfl := i) | (replace i := i.inv; obtain ⟨_, rfl⟩ := i) | cases i); (first | (replace j := j.inv; obtain rfl := j) | (replace j := j.inv; obtain ⟨_, rfl⟩ := j) | cases j); exact P.mul_int ⟨_, _, .int _ _, S, .tok, q⟩ hm
theorem Bin.modI {a b} (hb : b ≠ 0) (q : Q (.int (a.fmod b)) H) : Bin G n H .Mod (.int a) (.int b) Q := fun s v w i j B A T O S => by (first | (replace i := i.inv; obtain rfl := i) | (replace i := i.inv; obtain ⟨_, rfl⟩ := i) | cases i); (first | (replace j := j.inv; obtain rfl := j) | (replace j := j.inv; obtain ⟨_, rfl⟩ := j) | cases j); exact mod_int' hb ⟨_, _, .int _ _, S, .tok, q⟩
theorem Bin.divI {a b} (hb : b ≠ 0) (hp : Builtin.divisionGoesByPylong a b = false) (q : Q (.int (a.fdiv b)) H) : Bin G n H .FloorDiv (.int a) (.int b) Q := fun s v w i j B A T O S => by (first | (replace i := i.inv; obtain rfl := i) | (replace i := i.inv; obtain ⟨_, rfl⟩ := i) | cases i); (first | (replace j := j.inv; obtain rfl := j) | (replace j := j.inv; obtain ⟨_, rfl⟩ := j) | cases j); exact floordiv_int hb ⟨_, _, .int _ _, S, .tok, q⟩ (.inl hp)
theorem Una.neg {a} (q : Q (.int (-a)) H) : Una G n H .USub (.int a) Q := fun s v i B A T O S => by (first | (replace i := i.inv; obtain rfl := i) | (replace i := i.inv; obtain ⟨_, rfl⟩ := i) | cases i); exact PyProof.Rows.neg_int ⟨_, _, .int _ _, S, .tok, q⟩
-- comparisons
theorem Cmp.ltI {a b} (q : Q (.bool (decide (a < b))) H) : Cmp G n H .Lt (.int a) (.int b) Q := fun s v w i j B A T O S => by (first | (replace i := i.inv; obtain rfl := i) | (replace i := i.inv; obtain ⟨_, rfl⟩ := i) | cases i); (first | (replace j := j.inv; obtain rfl := j) | (replace j := j.inv; obtain ⟨_, rfl⟩ := j) | cases j); exact P.lt_int ⟨_, _, .bool _, S, .refl _, q⟩
theorem Cmp.leI {a b} (q : Q (.bool (decide (a ≤ b))) H) : Cmp G n H .LtE (.int a) (.int b) Q := fun s v w i j B A T O S => by (first | (replace i := i.inv; obtain rfl := i) | (replace i := i.inv; obtain ⟨_, rfl⟩ := i) | cases i); (first | (replace j := j.inv; obtain rfl := j) | (replace j := j.inv; obtain ⟨_, rfl⟩ := j) | cases j); exact P.le_int ⟨_, _, .bool _, S, .refl _, q⟩
theorem Cmp.gtI {a b} (q : Q (.bool (decide (a > b))) H) : Cmp G n H .Gt (.int a) (.int b) Q := fun s v w i j B A T O S => by (first | (replace i := i.inv; obtain rfl := i) | (replace i := i.inv; obtain ⟨_, rfl⟩ := i) | cases i); (first | (replace j := j.inv; obtain rfl := j) | (replace j := j.inv; obtain ⟨_, rfl⟩ := j) | cases j); exact P.gt_int ⟨_, _, .bool _, S, .refl _, q⟩
theorem Cmp.geI {a b} (q : Q (.bool (decide (a ≥ b))) H) : Cmp G n H .GtE (.int a) (.int b) Q := fun s v w i j B A T O S => by (first | (replace i := i.inv; obtain rfl := i) | (replace i := i.inv; obtain ⟨_, rfl⟩ := i) | cases i); (first | (replace j := j.inv; obtain rfl := j) | (replace j := j.inv; obtain ⟨_, rfl⟩ := j) | cases j); exact P.ge_int ⟨_, _, .bool _, S, .refl _, q⟩
theorem Cmp.eq {d e} (q : Q (.bool (deq d e)) H) (h : dk d e = true := by rfl) : Cmp G n H .Eq d e Q := fun s v w i j B A T O S => cmp_ofEq (RcAt.dt i j O.u h _ _ _ _ ⟨_, _, .bool _, S, .refl _, q⟩)
theorem Cmp.ne {d e} (q : Q (.bool (!deq d e)) H) (h : dk d e = true := by rfl) : Cmp G n H .NotEq d e Q := fun s v w i j B A T O S => cmp_ofNotEq (RcNeAt.dt i j O.u h _ _ _ _ ⟨_, _, .bool _, S, .refl _, q⟩)
noncomputable def isN : D → Bool
  | .none => true
  | _ => false
theorem isN_eq {h : Heap} {v : Value} {d : D} (i : Is h v d) : (v == Value.none) = isN d := by cases i <;> rfl
theorem Cmp.isnotN {d} (q : Q (.bool (!Mine.isN d)) H) : Cmp G n H .IsNot d .none Q := fun s v w i j B A T O S => by
  (first | (replace j := j.inv; obtain rfl := j) | (replace j := j.inv; obtain ⟨_, rfl⟩ := j) | cases j); exact isnot_none_gen ⟨_, _, by rw [isN_eq i]; exact .bool _, S, .refl _, q⟩

theorem deq_uniqL {h : Heap} : ∀ {vs : List Value} {l l2 r' : List D}, IsL h vs l → IsL h vs l2 → tk l2 r' = true → tk l r' = true → tq l2 r' = tq l r' := by
  intro vs
  induction vs with
  | nil => intro l l2 r' i j _ _; (first | (replace i := i.inv; obtain rfl := i) | (replace i := i.inv; obtain ⟨_, rfl⟩ := i) | cases i); (first | (replace j := j.inv; obtain rfl := j) | (replace j := j.inv; obtain ⟨_, rfl⟩ := j) | cases j); rfl
  | cons v vs ih =>
    intro l l2 r' i j k1 k2
    cases i with | @cons _ a1 _ l a i => cases j with | @cons _ b1 _ l2 b j =>
    cases r' with
    | nil => simp [tq]
    | cons r0 r' =>
      unfold tk at k1 k2
      rw [List.zip_cons_cons, List.all_cons, Bool.and_eq_true] at k1 k2
      have z := ih i j k1.2 k2.2
      unfold tq at z ⊢
      have e1 : sq b1 r0 = sq a1 r0 := by
        have k1 := k1.1; have k2 := k2.1
        cases a <;> cases b <;> first | rfl | (cases r0 <;> cases k1) | (cases r0 <;> cases k2)
      have e2 : l.length = l2.length := i.length.symm.trans j.length
      simp only [List.length_cons, List.zip_cons_cons, List.all_cons, e1]
      simp only [e2] at z ⊢
      cases hx : (l2.length == r'.length) with
      | true =>
        rw [hx] at z
        have hx' : (l2.length + 1 == r'.length + 1) = true := by simpa using hx
        simp only [hx', Bool.true_and] at z ⊢
        rw [z]
      | false =>
        have hx' : (l2.length + 1 == r'.length + 1) = false := by simpa using hx
        simp only [hx', Bool.false_and]
theorem tup_same {h : Heap} {a : Addr} {vs ws : List Value} (t : IsTup h a vs.toArray) (u : IsTup h a ws.toArray) : vs = ws := by
  obtain ⟨o, h1, _, n, h3⟩ := t
  obtain ⟨o', h1', _, n', h3'⟩ := u
  rw [h1] at h1'; cases h1'
  rw [h3] at h3'
  injection h3' with e _; simpa using e
theorem deq_uniq {h : Heap} {v : Value} {d e c : D} (p : Is h v e) (q : Is h v c) (r : dk c d = true) (t : dk e d = true) : deq c d = deq e d := by
  cases p with
  | @tup a vs l t1 i1 =>
    cases q with
    | @tup _ vs2 l2 t2 i2 =>
      obtain rfl := tup_same t1 t2
      cases d with
      | tup r' => exact deq_uniqL i1 i2 r t
      | _ => cases r
    | ref => cases d <;> cases r
    | rng => cases d <;> cases r
  | ref => cases d <;> cases t
  | rng => cases d <;> cases t
  | _ => cases q; rfl
open Classical in
theorem in_core {s : Shared} {A : Around} {x : Value} {d : D} {vs : List Value} {l : List D} (i : IsL s.heap vs l) (j : Is s.heap x d) (hu : A.units < cLine) (hk : (l.all fun e => dk e d) = true) :
    ∃ f : Value → Bool, (∀ y, y ∈ vs.toArray → EqAt A s y x (f y)) ∧ vs.toArray.any f = l.any fun e => deq e d := by
  have key : ∀ y e, e ∈ l → Is s.heap y e → (decide (∃ e, e ∈ l ∧ Is s.heap y e ∧ deq e d = true)) = deq e d := by
    intro y e he hi
    cases q : deq e d with
    | true => exact decide_eq_true ⟨e, he, hi, q⟩
    | false =>
      refine decide_eq_false ?_
      rintro ⟨c, hc, hj, hq⟩
      rw [deq_uniq hi hj (List.all_eq_true.mp hk _ hc) (List.all_eq_true.mp hk _ he), q] at hq
      cases hq
  refine ⟨fun y => decide (∃ e, e ∈ l ∧ Is s.heap y e ∧ deq e d = true), fun y hy => ?_, ?_⟩
  · obtain ⟨k, hk1, e⟩ := List.mem_iff_getElem.mp (List.mem_toArray.mp hy)
    have l1 : k < l.length := i.length ▸ hk1
    have hi : Is s.heap y l[k] := e ▸ i.at hk1 l1
    have z := EqAt.dt hi j hu (List.all_eq_true.mp hk _ (List.getElem_mem l1))
    show EqAt A s y x (decide _)
    rw [key y _ (List.getElem_mem l1) hi]; exact z
  · rw [← Array.any_toList]
    show vs.any _ = _
    have aux : ∀ {vs' : List Value} {l' : List D}, IsL s.heap vs' l' → (∀ e ∈ l', e ∈ l) → (vs'.any fun y => decide (∃ e, e ∈ l ∧ Is s.heap y e ∧ deq e d = true)) = l'.any fun e => deq e d := by
      intro vs'
      induction vs' with
      | nil => intro l' i' _; (first | (replace i' := i'.inv; obtain rfl := i') | (replace i' := i'.inv; obtain ⟨_, rfl⟩ := i') | cases i'); rfl
      | cons v vs' ih =>
        intro l' i' hs
        cases i' with | @cons _ e0 _ l' a i' =>
        rw [List.any_cons, List.any_cons, ih i' fun e he => hs e (.tail _ he), key v e0 (hs e0 (.head _)) a]
    exact aux i fun _ h => h
theorem Cmp.inT {d l} (q : Q (.bool (l.any fun e => deq e d)) H) (h : (l.all fun e => dk e d) = true := by rfl) (hn : 1 ≤ n := by decide) : Cmp G n H .In d (.tup l) Q := fun s v w i j B A T O S => by
  replace j := j.inv; obtain ⟨a, vs, rfl, t, j⟩ := j
  obtain ⟨f, h1, h2⟩ := in_core (A := A.in1) j i (by have := O.room hn; show A.units + 1 < _; one_sign) h
  refine in_tupleAt f (tupOf t) h1 ⟨_, _, ?_, S, .refl _, q⟩
  rw [h2]; exact .bool _
theorem Cmp.ninT {d l} (q : Q (.bool (!(l.any fun e => deq e d))) H) (h : (l.all fun e => dk e d) = true := by rfl) (hn : 1 ≤ n := by decide) : Cmp G n H .NotIn d (.tup l) Q := fun s v w i j B A T O S => by
  replace j := j.inv; obtain ⟨a, vs, rfl, t, j⟩ := j
  obtain ⟨f, h1, h2⟩ := in_core (A := A.in1) j i (by have := O.room hn; show A.units + 1 < _; one_sign) h
  refine notIn_tupleAt f (tupOf t) h1 ⟨_, _, ?_, S, .refl _, q⟩
  rw [h2]; exact .bool _
noncomputable def leq (l r : List D) : Bool := l.length == r.length && (l.zip r).all fun p => deq p.1 p.2
theorem Cmp.eqL {a b l r} (hA : H a = some (.lst l)) (hB : H b = some (.lst r)) (q : Q (.bool (leq l r)) H) (h : ((l.zip r).all fun p => dk p.1 p.2) = true := by rfl) (hn : 1 ≤ n := by decide) : Cmp G n H .Eq (.ref a) (.ref b) Q := fun s v w i j B A T O S => by
  (first | (replace i := i.inv; obtain rfl := i) | (replace i := i.inv; obtain ⟨_, rfl⟩ := i) | cases i); (first | (replace j := j.inv; obtain rfl := j) | (replace j := j.inv; obtain ⟨_, rfl⟩ := j) | cases j)
  obtain ⟨_, vs, t, i⟩ := S.own _ _ hA
  obtain ⟨_, ws, u, j⟩ := S.own _ _ hB
  have hu : A.in1.units < cLine := by have := O.room hn; show A.units + 1 < _; one_sign
  refine cmp_ofEq ?_
  by_cases e : l.length = r.length
  · refine RcAt.lists t.isList u.isList (by rw [List.size_toArray, List.size_toArray, i.length, j.length, e]) O.u (e := fun k => deq (l.getD k .none) (r.getD k .none)) (eq_itemsD i j hu h) _ _ _ _ ⟨_, _, ?_, S, .refl _, q⟩
    have : ((List.range vs.toArray.size).all fun k => deq (l.getD k .none) (r.getD k .none)) = leq l r := by
      rw [List.size_toArray, i.length, show l.length = min l.length r.length by one_sign, zipAll (e := deq)]; unfold leq; simp [e]
    rw [this]; exact .bool _
  · refine RcAt.lists_lengths t.isList u.isList (by rw [List.size_toArray, List.size_toArray, i.length, j.length]; simpa using e) O.u _ _ _ _ ⟨_, _, ?_, S, .refl _, q⟩
    have : leq l r = false := by unfold leq; simp [e]
    rw [this]; exact .bool _
theorem Cmp.neL {a b l r} (hA : H a = some (.lst l)) (hB : H b = some (.lst r)) (q : Q (.bool (!leq l r)) H) (h : ((l.zip r).all fun p => dk p.1 p.2) = true := by rfl) (hn : 1 ≤ n := by decide) : Cmp G n H .NotEq (.ref a) (.ref b) Q := fun s v w i j B A T O S => by
  (first | (replace i := i.inv; obtain rfl := i) | (replace i := i.inv; obtain ⟨_, rfl⟩ := i) | cases i); (first | (replace j := j.inv; obtain rfl := j) | (replace j := j.inv; obtain ⟨_, rfl⟩ := j) | cases j)
  obtain ⟨_, vs, t, i⟩ := S.own _ _ hA
  obtain ⟨_, ws, u, j⟩ := S.own _ _ hB
  have hu : A.in1.units < cLine := by have := O.room hn; show A.units + 1 < _; one_sign
  refine cmp_ofNotEq ?_
  by_cases e : l.length = r.length
  · refine RcNeAt.lists t.isList u.isList (by rw [List.size_toArray, List.size_toArray, i.length, j.length, e]) O.u (e := fun k => deq (l.getD k .none) (r.getD k .none)) (eq_itemsD i j hu h) _ _ _ _ ⟨_, _, ?_, S, .refl _, q⟩
    have : ((List.range vs.toArray.size).all fun k => deq (l.getD k .none) (r.getD k .none)) = leq l r := by
      rw [List.size_toArray, i.length, show l.length = min l.length r.length by one_sign, zipAll (e := deq)]; unfold leq; simp [e]
    rw [this]; exact .bool _
  · refine RcNeAt.lists_lengths t.isList u.isList (by rw [List.size_toArray, List.size_toArray, i.length, j.length]; simpa using e) O.u _ _ _ _ ⟨_, _, ?_, S, .refl _, q⟩
    have : leq l r = false := by unfold leq; simp [e]
    rw [this]; exact .bool _
end

end
section
set_option tactic.hygienic false

noncomputable def sget (x : Str) : List (D × D) → Option D
  | [] => none
  | (.str y, d) :: r => if y = x then some d else sget x r
  | _ :: r => sget x r
theorem Ent.noRef {P : Params} {h : Heap} : ∀ {es : List DictEntry} {l : List (D × D)}, Ent P h es l → es.any (·.refKey) = false
  | _, _, .nil => rfl
  | _, _, .str a _ _ r => by rw [List.any_cons, r.noRef]; unfold DictEntry.refKey; rw [a]; rfl
  | _, _, .int a _ _ r => by rw [List.any_cons, r.noRef]; unfold DictEntry.refKey; rw [a]; rfl
theorem Ent.sgetL {P : Params} {h : Heap} {x : Str} : ∀ {es : List DictEntry} {l : List (D × D)}, Ent P h es l →
    match sget x l with
    | some d => ∃ e, es.find? (·.key.isStr x) = some e ∧ Is h e.val d
    | none => es.find? (·.key.isStr x) = none
  | _, _, .nil => rfl
  | _, _, .str (e := e) (s := y) a _ c r => by
    have ih := r.sgetL (x := x)
    unfold sget
    by_cases q : y = x
    · rw [if_pos q]; exact ⟨e, by rw [List.find?_cons, a]; simp [Value.isStr, q], c⟩
    · rw [if_neg q]
      have z : e.key.isStr x = false := by rw [a]; simp [Value.isStr, q]
      rw [List.find?_cons, z]; exact ih
  | _, _, .int (e := e) (i := y) a _ c r => by
    have ih := r.sgetL (x := x)
    unfold sget
    have z : e.key.isStr x = false := by rw [a]; rfl
    rw [List.find?_cons, z]; exact ih
theorem Ent.getL_some {P : Params} {h : Heap} {x : Str} {es : List DictEntry} {l : List (D × D)} {d : D} (i : Ent P h es l) (e : sget x l = some d) : ∃ v, getL x es = some (some v) ∧ Is h v d := by
  have z := i.sgetL (x := x); rw [e] at z
  obtain ⟨en, h1, h2⟩ := z
  exact ⟨en.val, by unfold getL; rw [h1], h2⟩
theorem Ent.getL_none {P : Params} {h : Heap} {x : Str} {es : List DictEntry} {l : List (D × D)} (i : Ent P h es l) (e : sget x l = none) : getL x es = some none := by
  have z := i.sgetL (x := x); rw [e] at z
  unfold getL; rw [z, i.noRef]; rfl
theorem exact_dict {o : Obj} {es : List DictEntry} {n : Nat} (h : o.ExactDict) (e : o.data = .dict es.toArray n) : o = dictOf es n := by
  obtain ⟨c, d, dt, sl⟩ := o
  obtain ⟨h1, h2, h3⟩ := h
  simp only at h1 h2 h3 e
  subst h1 h2 h3 e; rfl

section
variable {G : Gd} {n : Nat} {env : Env} {m : Loc} {H : Hp} {Q : D → Hp → Prop}
theorem inst_at {B : Heap} {h : Heap} {x C dx : Addr} {l : List (D × D)} (S : Sat G B H h) (h1 : H x = some (.ins C dx)) (h2 : H dx = some (.dct l)) :
    ∃ es k, InstAt h x (instObj C dx) C (some (dictOf es k)) ∧ Ent G.w.params h es l := by
  have a := (S.own _ _ h1).2
  obtain ⟨o, es, k, b1, b2, b3, b4⟩ := (S.own _ _ h2).2
  rw [exact_dict b2 b3] at b1
  exact ⟨es, k, ⟨a, rfl, rfl, b1⟩, b4⟩
theorem Is.handed {h : Heap} {v : Value} {d : D} (i : Is h v d) (hd : ∀ id, d ≠ .bi id) : handedIn v = true := by cases i <;> first | rfl | exact absurd rfl (hd _)
theorem Get.own {x C dx l name d attr} (h1 : H x = some (.ins C dx)) (h2 : H dx = some (.dct l)) (hl : sget name l = some d) (hg : plainGet G.K C name = true) (hh : hasDictIn G.K C = true) (ha : findIn G.K (.ref C) name = some attr) (hn : noGet G.K attr = true)
    (q : Q d H) (hd : ∀ id, d ≠ .bi id := by intro _ e; cases e) : Get G n H (.ref x) name Q := fun s v i B A T O S => by
  (first | (replace i := i.inv; obtain rfl := i) | (replace i := i.inv; obtain ⟨_, rfl⟩ := i) | cases i)
  obtain ⟨es, k, I, en⟩ := inst_at S h1 h2
  obtain ⟨v, a, b⟩ := en.getL_some hl
  exact get_value (T.k.keeps S.keep) I (plainGet_of hg).1 (findObj_own hh ha hn (by rw [lookIn_dict]; exact a)) (b.handed hd) ⟨_, _, b, S, .tok, q⟩

theorem Ev.meth {o name apos e rest pos x C dx l f} {pl : Sem Bool} (hg : plainGet G.K C name = true) (hf : findIn G.K (.ref C) name = some (some (.ref f))) (ht : isFn G.K (.ref f) = true) (hk : keepIn G.K (.ref f) = true)
    (h : Ev G n env m H o fun d H1 => d = .ref x ∧ H1 x = some (.ins C dx) ∧ H1 dx = some (.dct l) ∧ sget name l = none ∧ EvL G n env m H1 pos (e :: rest) fun ds H2 => Cal G n H2 (.ref f) (.ref x :: ds) Q)
    (he : eval (.Call (.Attribute o name apos) (e :: rest) [] pos) env = (do
      let ov ← eval o env
      standAt apos.atName
      let (f, first) ← holding [ov] (getMethod ov name pl)
      callWith pos f first (backTo pos (starEach (e :: rest) env)) []) := by rfl)
    (hs : starEach (e :: rest) env = (false, eval e env) :: starEach rest env := by rfl) (hp : (backTo pos (starEach rest env)).any (·.1) = false := by rfl) :
    Ev G n env m H (.Call (.Attribute o name apos) (e :: rest) [] pos) Q := by
  intro s hL B A T O S
  refine MethodCall_ (pl := pl) (wpAny_mono (h s hL B A T O S) ?_ fun _ _ z => z) he
  rintro v1 s1 ⟨_, _, i1, S1, st1, H1, rfl, hL1, rfl, hx, hdx, hl, h1⟩
  (first | (replace i1 := i1.inv; obtain rfl := i1) | (replace i1 := i1.inv; obtain ⟨_, rfl⟩ := i1) | cases i1)
  have ne : ∀ {a y}, H1 a = some y → a ≠ env.locals := fun q z => by rw [z, hL1] at q; cases q
  obtain ⟨es, k, I, en⟩ := inst_at (H := H1.set env.locals (.ns m)) S1 ((Hp.set_ne _ _ (ne hx)).trans hx) ((Hp.set_ne _ _ (ne hdx)).trans hdx)
  refine PySem.W.method_fn (T.k.keeps S1.keep) I (plainGet_of hg).1 (plainGet_of hg).2 hf (beq_iff_eq.mp ht) (by show (lookIn name (dictOf es k)).map _ = _; rw [lookIn_dict, en.getL_none hl]; rfl) ?_
  refine callWith_K (T.k.keeps S1.keep) hk (wpAny_mono (h1 s1 hL1 B A T O S1) ?_ fun _ _ z => z) hs hp
  rintro vs s2 ⟨ds, _, i2, S2, st2, H2, rfl, hL2, h2⟩
  refine ⟨T.k.keeps S2.keep, wpAny_mono ((h2 s2 (.ref x :: vs) (.cons (.ref x) i2)).frame hL2 B A T O S2) ?_ fun _ _ z => z⟩
  rintro v3 s3 ⟨d3, H3, i3, S3, st3, q⟩
  exact ⟨d3, H3, i3, S3, (st1.trans st2).trans st3, q⟩

-- items of lists and tuples, from the left
theorem subscripted_false (slice : Expr) (o i : Value) : ∃ ops, subscripted slice false o i = operate ops (getItem o i) := by
  unfold subscripted
  split
  · exact ⟨_, rfl⟩
  · rename_i h; cases h
  · exact ⟨_, rfl⟩
theorem Item.lst {a l k d} (hH : H a = some (.lst l)) (h0 : 0 ≤ k) (hx : l[k.toNat]? = some d) (q : Q d H) (hs : l.length < 2 ^ 62 := by simp) : Item G n H (.ref a) (.int k) Q := fun value slice s v w i j B A T O S => by
  (first | (replace i := i.inv; obtain rfl := i) | (replace i := i.inv; obtain ⟨_, rfl⟩ := i) | cases i); replace j := j.inv; obtain ⟨u, rfl⟩ := j
  obtain ⟨_, vs, t, i⟩ := S.own _ _ hH
  obtain ⟨v, h1, h2⟩ := i.get hx
  have hlt : k.toNat < l.length := (List.getElem?_eq_some_iff.mp hx).1
  obtain ⟨ops, e⟩ := subscripted_false slice (.ref a) (.int k u)
  exact tail_any t.isList.typeIs slot_list_getitem.lookup (wpAny_getItem_list t.isList h0 (by one_sign) (by simpa using h1) ⟨_, _, h2, S, .refl _, q⟩) e
theorem Item.tup {l k j d} (hj : seqIndex? k l.length = some j) (hx : l[j]? = some d) (q : Q d H) (hlo : -(2 ^ 63) ≤ k := by decide) (hhi : k < 2 ^ 63 := by decide) : Item G n H (.tup l) (.int k) Q := fun value slice s v w i jj B A T O S => by
  replace i := i.inv; obtain ⟨a, vs, rfl, t, i⟩ := i; replace jj := jj.inv; obtain ⟨u, rfl⟩ := jj
  obtain ⟨v, h1, h2⟩ := i.get hx
  obtain ⟨ops, e⟩ := subscripted_false slice (.ref a) (.int k u)
  exact tail_any t.typeIs slot_tuple_getitem.lookup (getItem_tuple t hlo hhi (by rw [List.size_toArray, i.length]; exact hj) (by simpa using h1) ⟨_, _, h2, S, .refl _, q⟩) e
theorem Cal.lenL {a l} (hH : H a = some (.lst l)) (q : Q (.int l.length) H) (hs : l.length < 2 ^ 62 := by simp) : Cal G n H (.builtin "len") [.ref a] Q := fun s vs i B A T O S => by
  replace i := i.inv; obtain ⟨_, _, rfl, i, j⟩ := i
  (first | (replace i := i.inv; obtain rfl := i) | (replace i := i.inv; obtain ⟨_, rfl⟩ := i) | cases i); (first | (replace j := j.inv; obtain rfl := j) | (replace j := j.inv; obtain ⟨_, rfl⟩ := j) | cases j)
  obtain ⟨_, vs, t, i⟩ := S.own _ _ hH
  refine len_list t.isList (by rw [List.size_toArray, i.length]; one_sign) ⟨_, _, ?_, S, .tok, q⟩
  rw [List.size_toArray, i.length]; exact .int _ _
end

end
section
set_option tactic.hygienic false

structure EvP (G : Gd) (n : Nat) (env : Env) (m : Loc) (H : Hp) (e : Expr) (d : D) : Prop where
  h : Ev G n env m H e fun d' H' => d' = d ∧ H' = H
structure EvPB (G : Gd) (n : Nat) (env : Env) (m : Loc) (H : Hp) (e : Expr) (b : Bool) : Prop where
  h : EvB G n env m H e fun b' H' => b' = b ∧ H' = H
structure EvPL (G : Gd) (n : Nat) (env : Env) (m : Loc) (H : Hp) (pos : Pos) (es : List Expr) (ds : List D) : Prop where
  h : EvL G n env m H pos es fun ds' H' => ds' = ds ∧ H' = H
structure CalP (G : Gd) (n : Nat) (H : Hp) (f : Value) (ds : List D) (d : D) : Prop where
  h : Cal G n H f ds fun d' H' => d' = d ∧ H' = H
structure CmpP (G : Gd) (n : Nat) (H : Hp) (op : CmpOp) (d1 d2 : D) (b : Bool) : Prop where
  h : Cmp G n H op d1 d2 fun d' H' => d' = .bool b ∧ H' = H
structure BinP (G : Gd) (n : Nat) (H : Hp) (op : Operator) (d1 d2 : D) (d : D) : Prop where
  h : Bin G n H op d1 d2 fun d' H' => d' = d ∧ H' = H
structure ItemP (G : Gd) (n : Nat) (H : Hp) (d1 d2 : D) (d : D) : Prop where
  h : Item G n H d1 d2 fun d' H' => d' = d ∧ H' = H
structure GetP (G : Gd) (n : Nat) (H : Hp) (d1 : D) (x : Str) (d : D) : Prop where
  h : Get G n H d1 x fun d' H' => d' = d ∧ H' = H
structure TruP (G : Gd) (n : Nat) (H : Hp) (d : D) (b : Bool) : Prop where
  h : Tru G n H d fun b' H' => b' = b ∧ H' = H
structure ExP (G : Gd) (n : Nat) (env : Env) (m : Loc) (H : Hp) (ss : List Stmt) (d : D) : Prop where
  h : Ex G n env m H ss fun f _ H' => f = .ret d ∧ H' = H

noncomputable def truth : D → Bool
  | .none => false
  | .bool b => b
  | .int i => i != 0
  | .str s => (s.length : Int) != 0
  | .tup l => !l.isEmpty
  | _ => true
noncomputable def nt : D → Bool
  | .none => true
  | .tup _ => true
  | .bool _ => true
  | _ => false

section
variable {G : Gd} {n : Nat} {env : Env} {m : Loc} {H : Hp}
theorem EvP.to {e d} {Q : D → Hp → Prop} (h : EvP G n env m H e d) (q : Q d H) : Ev G n env m H e Q := Ev.mono h.h fun d' H' ⟨a, b⟩ => by subst a b; exact q
theorem EvPB.to {e b} {Q : Bool → Hp → Prop} (h : EvPB G n env m H e b) (q : Q b H) : EvB G n env m H e Q := EvB.mono h.h fun d' H' ⟨a, b⟩ => by subst a b; exact q
theorem EvPL.to {pos es ds} {Q : List D → Hp → Prop} (h : EvPL G n env m H pos es ds) (q : Q ds H) : EvL G n env m H pos es Q := EvL.mono h.h fun d' H' ⟨a, b⟩ => by subst a b; exact q
theorem Cal.mono {f ds} {Q Q' : D → Hp → Prop} (h : Cal G n H f ds Q) (q : ∀ d H', Q d H' → Q' d H') : Cal G n H f ds Q' := fun s vs i => (h s vs i).mono q
theorem Cal.le {k f ds} {Q : D → Hp → Prop} (h : Cal G k H f ds Q) (q : k ≤ n) : Cal G n H f ds Q := fun s vs i => (h s vs i).le q
theorem CalP.le {k f ds d} (h : CalP G k H f ds d) (q : k ≤ n) : CalP G n H f ds d := ⟨Cal.le h.h q⟩
theorem CalP.conv {f ds d d'} (h : CalP G n H f ds d) (e : d = d') : CalP G n H f ds d' := e ▸ h
theorem EvP.conv {e d d'} (h : EvP G n env m H e d) (q : d = d') : EvP G n env m H e d' := q ▸ h

theorem EvP.cnone {k pos} : EvP G n env m H (.Constant .none k pos) .none := ⟨Ev.cnone ⟨rfl, rfl⟩⟩
theorem EvP.cbool {b k pos} : EvP G n env m H (.Constant (.bool b) k pos) (.bool b) := ⟨Ev.cbool ⟨rfl, rfl⟩⟩
theorem EvP.cint {i k pos} : EvP G n env m H (.Constant (.int i) k pos) (.int i) := ⟨Ev.cint ⟨rfl, rfl⟩⟩
theorem EvP.cstr {x k pos} : EvP G n env m H (.Constant (.str x) k pos) (.str x) := ⟨Ev.cstr ⟨rfl, rfl⟩⟩
theorem EvP.loc {x pos d} (hv : m x = some d) (hk : env.scope.kind = .function := by rfl) (hx : env.kindOf x = some .local := by rfl) (hd : (x == ("__debug__" : Str)) = false := by decide) : EvP G n env m H (.Name x pos) d := ⟨Ev.loc hv ⟨rfl, rfl⟩ hk hx hd⟩
theorem EvP.cell {x pos d c} (hc : env.cells.lookup x = some c) (hH : H c = some (.cel (some d))) (hk : env.scope.kind = .function := by rfl) (hx : env.kindOf x = some .cell := by rfl) (hd : (x == ("__debug__" : Str)) = false := by decide) :
    EvP G n env m H (.Name x pos) d := ⟨Ev.cell hc hH ⟨rfl, rfl⟩ hk hx hd⟩
theorem EvP.glob {x pos v d} (e : nsIn G.K mainGlobals x = some (some v)) (hd' : IsTop G v d) (hk : env.scope.kind = .function := by rfl) (hg : env.globals = mainGlobals := by rfl) (hx : env.kindOf x = some .globalImplicit := by rfl) (hd : (x == ("__debug__" : Str)) = false := by decide) :
    EvP G n env m H (.Name x pos) d := ⟨Ev.glob e hd' ⟨rfl, rfl⟩ hk hg hx hd⟩
theorem EvP.bin {op l r pos d1 d2 d} (h1 : EvP G n env m H l d1) (h2 : EvP G n env m H r d2) (h3 : BinP G n H op d1 d2 d) : EvP G n env m H (.BinOp l op r pos) d := ⟨Ev.bin (h1.to (h2.to h3.h))⟩
theorem BinP.add {a b} : BinP G n H .Add (.int a) (.int b) (.int (a + b)) := ⟨Bin.addI ⟨rfl, rfl⟩⟩
theorem BinP.sub {a b} : BinP G n H .Sub (.int a) (.int b) (.int (a - b)) := ⟨Bin.subI ⟨rfl, rfl⟩⟩
theorem BinP.mul {a b} (hm : IntMulOk a b) : BinP G n H .Mult (.int a) (.int b) (.int (a * b)) := ⟨Bin.mulI hm ⟨rfl, rfl⟩⟩
theorem BinP.mod {a b} (hb : b ≠ 0) : BinP G n H .Mod (.int a) (.int b) (.int (a.fmod b)) := ⟨Bin.modI hb ⟨rfl, rfl⟩⟩
theorem BinP.div {a b} (hb : b ≠ 0) (hp : Builtin.divisionGoesByPylong a b = false) : BinP G n H .FloorDiv (.int a) (.int b) (.int (a.fdiv b)) := ⟨Bin.divI hb hp ⟨rfl, rfl⟩⟩
theorem EvP.neg {e pos a} (h : EvP G n env m H e (.int a)) : EvP G n env m H (.UnaryOp .USub e pos) (.int (-a)) := ⟨Ev.una (h.to (Una.neg ⟨rfl, rfl⟩))⟩
theorem EvP.cmp {op l r pos d1 d2 b} (h1 : EvP G n env m H l d1) (h2 : EvP G n env m H r d2) (h3 : CmpP G n H op d1 d2 b) (hm : behindInMarks op r = false := by with_unfolding_all rfl) : EvP G n env m H (.Compare l [op] [r] pos) (.bool b) := ⟨Ev.cmp (h1.to (h2.to h3.h)) hm⟩
theorem CmpP.lt {a b} : CmpP G n H .Lt (.int a) (.int b) (decide (a < b)) := ⟨Cmp.ltI ⟨rfl, rfl⟩⟩
theorem CmpP.lte {a b} : CmpP G n H .LtE (.int a) (.int b) (decide (a ≤ b)) := ⟨Cmp.leI ⟨rfl, rfl⟩⟩
theorem CmpP.gt {a b} : CmpP G n H .Gt (.int a) (.int b) (decide (a > b)) := ⟨Cmp.gtI ⟨rfl, rfl⟩⟩
theorem CmpP.gte {a b} : CmpP G n H .GtE (.int a) (.int b) (decide (a ≥ b)) := ⟨Cmp.geI ⟨rfl, rfl⟩⟩
theorem CmpP.eq {d e} (h : dk d e = true := by rfl) : CmpP G n H .Eq d e (deq d e) := ⟨Cmp.eq ⟨rfl, rfl⟩ h⟩
theorem CmpP.ne {d e} (h : dk d e = true := by rfl) : CmpP G n H .NotEq d e (!deq d e) := ⟨Cmp.ne ⟨rfl, rfl⟩ h⟩
theorem CmpP.isnot {d} : CmpP G n H .IsNot d .none (!isN d) := ⟨Cmp.isnotN ⟨rfl, rfl⟩⟩
theorem CmpP.inT {d l} (h : (l.all fun e => dk e d) = true := by rfl) (hn : 1 ≤ n := by one_sign) : CmpP G n H .In d (.tup l) (l.any fun e => deq e d) := ⟨Cmp.inT ⟨rfl, rfl⟩ h hn⟩
theorem CmpP.ninT {d l} (h : (l.all fun e => dk e d) = true := by rfl) (hn : 1 ≤ n := by one_sign) : CmpP G n H .NotIn d (.tup l) (!l.any fun e => deq e d) := ⟨Cmp.ninT ⟨rfl, rfl⟩ h hn⟩
theorem truthy_tup {s : Shared} {v : Value} {l : List D} {A : Around} {prog : Program} {w : World} {E : Value → Shared → Prop} {Q : Bool → Shared → Prop} (i : Is s.heap v (.tup l)) (hs : l.length < 2 ^ 62) (h : Q (!l.isEmpty) { s with toks := s.toks + 1 + 1 }) : wpAny (model prog w) A (truthy v) Q E s := by
  replace i := i.inv; obtain ⟨a, vs, rfl, t, i⟩ := i
  refine truthy_tuple t (by rw [List.size_toArray, i.length]; one_sign) ?_
  have : (!vs.toArray.isEmpty) = !l.isEmpty := by cases i <;> rfl
  first | (rw [this]; exact h) | (simpa [this] using h)
noncomputable def ntl : D → Bool
  | .none => true
  | .tup l => decide (l.length < 1000)
  | .bool _ => true
  | _ => false
theorem TruP.data {d} (h : ntl d = true) : TruP G n H d (truth d) := by
  cases d with
  | none => exact ⟨Tru.none ⟨rfl, rfl⟩⟩
  | bool b => exact ⟨Tru.bool ⟨rfl, rfl⟩⟩
  | tup l => exact ⟨fun s v i B A T O S => truthy_tup i (by have := of_decide_eq_true h; one_sign) ⟨_, _, rfl, S, .tok, rfl, rfl⟩⟩
  | _ => cases h
theorem TruP.bool {b} : TruP G n H (.bool b) b := ⟨Tru.bool ⟨rfl, rfl⟩⟩
-- tests
theorem EvPB.cmp {op l r pos d1 d2 b} (h1 : EvP G n env m H l d1) (h2 : EvP G n env m H r d2) (h3 : CmpP G n H op d1 d2 b) (hm : behindInMarks op r = false := by with_unfolding_all rfl) : EvPB G n env m H (.Compare l [op] [r] pos) b := ⟨EvB.cmp (h1.to (h2.to fun s v w i j => (h3.h s v w i j).mono fun _ _ ⟨a, b⟩ => by subst a b; exact Tru.bool ⟨rfl, rfl⟩)) hm⟩
theorem EvPB.plain {e d b} (h : EvP G n env m H e d) (t : TruP G n H d b) (he : isTrue e env (eval e env) = (do let v ← eval e env; standAt e.pos; holding [v] (truthy v)) := by rfl) : EvPB G n env m H e b := ⟨EvB.plain (h.to t.h) he⟩
theorem EvPB.not {e pos b} (h : EvPB G n env m H e b) : EvPB G n env m H (.UnaryOp .Not e pos) (!b) := ⟨EvB.not (h.to ⟨rfl, rfl⟩)⟩
theorem EvPB.and {x y rest pos a b} (h1 : EvPB G n env m H x a) (h2 : a = true → EvPB G n env m H (.BoolOp .And (y :: rest) pos) b) : EvPB G n env m H (.BoolOp .And (x :: y :: rest) pos) (a && b) := ⟨EvB.and (h1.to ⟨fun e => by subst e; exact (h2 rfl).h, fun e => by subst e; exact ⟨rfl, rfl⟩⟩)⟩
theorem EvPB.and1 {x pos a} (h1 : EvPB G n env m H x a) : EvPB G n env m H (.BoolOp .And [x] pos) a := ⟨EvB.and (h1.to ⟨fun e => by subst e; exact EvB.and_nil ⟨rfl, rfl⟩, fun e => by subst e; exact ⟨rfl, rfl⟩⟩)⟩
theorem EvPB.or {x y rest pos a b} (h1 : EvPB G n env m H x a) (h2 : a = false → EvPB G n env m H (.BoolOp .Or (y :: rest) pos) b) : EvPB G n env m H (.BoolOp .Or (x :: y :: rest) pos) (a || b) := ⟨EvB.or (h1.to ⟨fun e => by subst e; exact ⟨rfl, rfl⟩, fun e => by subst e; exact (h2 rfl).h⟩)⟩
theorem EvPB.or1 {x pos a} (h1 : EvPB G n env m H x a) : EvPB G n env m H (.BoolOp .Or [x] pos) a := ⟨EvB.or (h1.to ⟨fun e => by subst e; exact ⟨rfl, rfl⟩, fun e => by subst e; exact EvB.or_nil ⟨rfl, rfl⟩⟩)⟩
theorem EvPB.chain2 {l op1 op2 r1 r2 pos d1 d2 d3 a b} (h1 : EvP G n env m H l d1) (h2 : EvP G n env m H r1 d2) (h3 : CmpP G n H op1 d1 d2 a) (h4 : EvP G n env m H r2 d3) (h5 : CmpP G n H op2 d2 d3 b)
    (hm : lastMarks [op1, op2] [r1, r2] = false := by with_unfolding_all rfl) : EvPB G n env m H (.Compare l [op1, op2] [r1, r2] pos) (a && b) := ⟨EvB.chain (h1.to (Ch.link (h2.to fun s v w i j => (h3.h s v w i j).mono fun _ _ ⟨x, y⟩ => by
    subst x y; exact Tru.bool ⟨fun e => by
      subst e; exact Ch.last (h4.to fun s v w i j => (h5.h s v w i j).mono fun _ _ ⟨x, y⟩ => by subst x y; exact Tru.bool ⟨rfl, rfl⟩), fun e => by subst e; exact ⟨rfl, rfl⟩⟩))) hm⟩

-- and, or, if in a value
theorem EvP.and {x y rest pos a b} (h1 : EvP G n env m H x (.bool a)) (h2 : a = true → EvP G n env m H (.BoolOp .And (y :: rest) pos) (.bool b)) : EvP G n env m H (.BoolOp .And (x :: y :: rest) pos) (.bool (a && b)) := ⟨Ev.and (h1.to (Tru.bool ⟨fun e => by subst e; exact (h2 rfl).h, fun e => by subst e; exact ⟨rfl, rfl⟩⟩))⟩
theorem EvP.one {op x pos d} (h1 : EvP G n env m H x d) : EvP G n env m H (.BoolOp op [x] pos) d := ⟨Ev.one h1.h⟩
theorem EvP.orB {x y rest pos a b} (h1 : EvP G n env m H x (.bool a)) (h2 : a = false → EvP G n env m H (.BoolOp .Or (y :: rest) pos) (.bool b)) : EvP G n env m H (.BoolOp .Or (x :: y :: rest) pos) (.bool (a || b)) := ⟨Ev.or (h1.to (Tru.bool ⟨fun e => by subst e; exact ⟨rfl, rfl⟩, fun e => by subst e; exact (h2 rfl).h⟩))⟩
theorem EvP.or {x y rest pos d1 d2} (h1 : EvP G n env m H x d1) (h : ntl d1 = true) (h2 : EvP G n env m H (.BoolOp .Or (y :: rest) pos) d2) : EvP G n env m H (.BoolOp .Or (x :: y :: rest) pos) (bif truth d1 then d1 else d2) := ⟨Ev.or (h1.to fun s v i => ((TruP.data h).h s v i).mono fun b _ ⟨p, q⟩ => by
    subst p q
    exact ⟨fun e => by rw [e]; exact ⟨rfl, rfl⟩, fun e => by rw [e]; exact h2.h⟩)⟩
theorem EvP.ifx {c a b pos x d1 d2} (h1 : EvPB G n env m H c x) (h2 : x = true → EvP G n env m H a d1) (h3 : x = false → EvP G n env m H b d2) : EvP G n env m H (.IfExp c a b pos) (bif x then d1 else d2) := ⟨Ev.ifx (h1.to ⟨fun e => by subst e; exact (h2 rfl).h, fun e => by subst e; exact (h3 rfl).h⟩)⟩
theorem EvP.ifxI {c a b pos x i j} (h1 : EvPB G n env m H c x) (h2 : x = true → EvP G n env m H a (.int i)) (h3 : x = false → EvP G n env m H b (.int j)) : EvP G n env m H (.IfExp c a b pos) (.int (bif x then i else j)) :=
  (EvP.ifx h1 h2 h3).conv (by cases x <;> rfl)
-- parts
theorem EvP.attr {value attr pos d1 d} (h1 : EvP G n env m H value d1) (h2 : GetP G n H d1 attr d)
    (he : eval (.Attribute value attr pos) env = (do
      let o ← eval value env
      standAt pos.atName
      let r ← holding [o] (getAttr o attr true)
      letTemporaryGo value o r
      pure r) := by with_unfolding_all rfl) : EvP G n env m H (.Attribute value attr pos) d := ⟨Ev.attr (h1.to h2.h) he⟩
theorem GetP.own {x C dx l name d attr} (h1 : H x = some (.ins C dx)) (h2 : H dx = some (.dct l)) (hl : sget name l = some d) (hg : plainGet G.K C name = true) (hh : hasDictIn G.K C = true) (ha : findIn G.K (.ref C) name = some attr) (hn : noGet G.K attr = true)
    (hd : ∀ id, d ≠ .bi id := by intro _ e; cases e) : GetP G n H (.ref x) name d := ⟨Get.own h1 h2 hl hg hh ha hn ⟨rfl, rfl⟩ hd⟩
theorem EvP.item {value slice pos d1 d2 d} (h1 : EvP G n env m H value d1) (h2 : EvP G n env m H slice d2) (h3 : ItemP G n H d1 d2 d) : EvP G n env m H (.Subscript value slice pos) d := ⟨Ev.item (h1.to (h2.to h3.h))⟩
theorem ItemP.lst {a l k d} (hH : H a = some (.lst l)) (h0 : 0 ≤ k) (hx : l[k.toNat]? = some d) (hs : l.length < 2 ^ 62 := by simp) : ItemP G n H (.ref a) (.int k) d := ⟨Item.lst hH h0 hx ⟨rfl, rfl⟩ hs⟩
theorem EvPL.nil {pos} : EvPL G n env m H pos [] [] := ⟨EvL.nil ⟨rfl, rfl⟩⟩
theorem EvPL.cons {e rest pos d ds} (h1 : EvP G n env m H e d) (h2 : EvPL G n env m H pos rest ds) (he : starEach (e :: rest) env = (false, eval e env) :: starEach rest env := by rfl) : EvPL G n env m H pos (e :: rest) (d :: ds) := ⟨EvL.cons (h1.to (h2.to ⟨rfl, rfl⟩)) he⟩
theorem EvP.tup {es k pos ds} (h : EvPL G n env m H pos es ds) (hs : ds.length ≤ sizeLine := by exact Nat.le_of_ble_eq_true rfl) : EvP G n env m H (.Tuple es k pos) (.tup ds) := ⟨Ev.tup (h.to ⟨hs, rfl, rfl⟩)⟩
theorem EvP.callD {x p e rest pos f ds d} (hk : keepIn G.K (.ref f) = true) (h : EvP G n env m H (.Name x p) (.ref f)) (h2 : EvPL G n env m H pos (e :: rest) ds) (h3 : CalP G n H (.ref f) ds d)
    (he : starEach (e :: rest) env = (false, eval e env) :: starEach rest env := by rfl) (hp : (backTo pos (starEach rest env)).any (·.1) = false := by rfl) : EvP G n env m H (.Call (.Name x p) (e :: rest) [] pos) d := ⟨Ev.callD hk (h.to ⟨rfl, h2.to h3.h⟩) he hp⟩
theorem EvP.callB {x p e rest pos id ds d} (hx' : nsIn G.K mainGlobals x = some none) (hv : bootBuiltins x = some (.builtin id)) (h2 : EvPL G n env m H pos (e :: rest) ds) (h3 : CalP G n H (.builtin id) ds d)
    (hk : env.scope.kind = .function := by rfl) (hg : env.globals = mainGlobals := by rfl) (hb : env.builtins = builtinsNs := by rfl) (hn : x ≠ "__name__" := by decide)
    (hx : env.kindOf x = some .globalImplicit := by rfl) (hd : (x == ("__debug__" : Str)) = false := by decide)
    (he : starEach (e :: rest) env = (false, eval e env) :: starEach rest env := by rfl) (hp : (backTo pos (starEach rest env)).any (·.1) = false := by rfl) : EvP G n env m H (.Call (.Name x p) (e :: rest) [] pos) d := ⟨Ev.callB (Ev.built hx' hv (fun _ => .bi _) ⟨rfl, h2.to h3.h⟩ hk hg hb hn hx hd) he hp⟩
theorem CalP.lenL {a l} (hH : H a = some (.lst l)) (hs : l.length < 2 ^ 62 := by simp) : CalP G n H (.builtin "len") [.ref a] (.int l.length) := ⟨Cal.lenL hH ⟨rfl, rfl⟩ hs⟩
theorem EvP.meth {o name apos e rest pos x C dx l f ds d} {pl : Sem Bool} (h1 : H x = some (.ins C dx)) (h2 : H dx = some (.dct l)) (h3 : sget name l = none) (hg : plainGet G.K C name = true) (hf : findIn G.K (.ref C) name = some (some (.ref f))) (ht : isFn G.K (.ref f) = true) (hk : keepIn G.K (.ref f) = true)
    (h : EvP G n env m H o (.ref x)) (h4 : EvPL G n env m H pos (e :: rest) ds) (h5 : CalP G n H (.ref f) (.ref x :: ds) d)
    (he : eval (.Call (.Attribute o name apos) (e :: rest) [] pos) env = (do
      let ov ← eval o env
      standAt apos.atName
      let (f, first) ← holding [ov] (getMethod ov name pl)
      callWith pos f first (backTo pos (starEach (e :: rest) env)) []) := by rfl)
    (hs : starEach (e :: rest) env = (false, eval e env) :: starEach rest env := by rfl) (hp : (backTo pos (starEach rest env)).any (·.1) = false := by rfl) :
    EvP G n env m H (.Call (.Attribute o name apos) (e :: rest) [] pos) d := ⟨Ev.meth (x := x) (C := C) (dx := dx) (l := l) (f := f) (pl := pl) hg hf ht hk (h.to ⟨rfl, h1, h2, h3, h4.to h5.h⟩) he hs hp⟩

-- statements
variable {rest : List Stmt}
theorem ExP.ret {e pos d} (h : EvP G n env m H e d) : ExP G n env m H (.Return (some e) pos :: rest) d := ⟨Ex.ret (h.to ⟨rfl, rfl⟩)⟩
theorem ExP.iteR {test body pos x d1 d2} (h1 : EvPB G n env m H test x) (h2 : x = true → ExP G n env m H body d1) (h3 : x = false → ExP G n env m H rest d2) : ExP G n env m H (.If test body [] pos :: rest) (bif x then d1 else d2) := ⟨Ex.ite (h1.to ⟨fun e => by subst e; exact Ex.mono (h2 rfl).h fun f m' H' ⟨a, b⟩ => by subst a; exact ⟨rfl, b⟩, fun e => by subst e; exact Ex.nil (h3 rfl).h⟩)⟩
theorem ExP.asg {x pos' value pos d d'} (h : EvP G n env m H value d) (h2 : ExP G n env (lset m x d) H rest d') (hs : swapsWith value (some (.Name x pos')) pos.line env = pure false := by rfl) (hk : env.scope.kind = .function := by rfl) (hx : env.kindOf x = some .local := by rfl) :
    ExP G n env m H (.Assign [.Name x pos'] value pos :: rest) d' := ⟨Ex.asg (h.to (Asg.name h2.h hk hx)) hs⟩
theorem ExP.asgS {elts k tpos value pos names ds d'} (h : EvP G n env m H value (.tup ds)) (hl : names.length = ds.length) (h2 : StoL G n env m H names.reverse ds.reverse fun m2 H2 => Ex G n env m2 H2 rest fun f _ H' => f = .ret d' ∧ H' = H)
    (hs : swapsWithSole [.Tuple elts k tpos] value pos.line env = pure false := by rfl) (hw : swappedStores [.Tuple elts k tpos] value env = pure (some names) := by rfl) :
    ExP G n env m H (.Assign [.Tuple elts k tpos] value pos :: rest) d' := ⟨Ex.asgS (h.to ⟨ds, rfl, hl, h2⟩) hs hw⟩
theorem ExP.asgS2 {x y px py k tpos value pos d1 d2 d'} (h : EvP G n env m H value (.tup [d1, d2])) (h2 : ExP G n env (lset (lset m y d2) x d1) H rest d') (hk : env.scope.kind = .function := by rfl) (hx : env.kindOf x = some .local := by rfl) (hy : env.kindOf y = some .local := by rfl)
    (hs : swapsWithSole [.Tuple [.Name x px, .Name y py] k tpos] value pos.line env = pure false := by rfl) (hw : swappedStores [.Tuple [.Name x px, .Name y py] k tpos] value env = pure (some [x, y]) := by rfl) :
    ExP G n env m H (.Assign [.Tuple [.Name x px, .Name y py] k tpos] value pos :: rest) d' := ExP.asgS (names := [x, y]) h rfl ⟨hk, hy, hk, hx, h2.h⟩ hs hw
theorem ExP.asgS3 {x y z px py pz k tpos value pos d1 d2 d3 d'} (h : EvP G n env m H value (.tup [d1, d2, d3])) (h2 : ExP G n env (lset (lset (lset m z d3) y d2) x d1) H rest d') (hk : env.scope.kind = .function := by rfl) (hx : env.kindOf x = some .local := by rfl) (hy : env.kindOf y = some .local := by rfl) (hz : env.kindOf z = some .local := by rfl)
    (hs : swapsWithSole [.Tuple [.Name x px, .Name y py, .Name z pz] k tpos] value pos.line env = pure false := by rfl) (hw : swappedStores [.Tuple [.Name x px, .Name y py, .Name z pz] k tpos] value env = pure (some [x, y, z]) := by rfl) :
    ExP G n env m H (.Assign [.Tuple [.Name x px, .Name y py, .Name z pz] k tpos] value pos :: rest) d' := ExP.asgS (names := [x, y, z]) h rfl ⟨hk, hz, hk, hy, hk, hx, h2.h⟩ hs hw
theorem BindsTo.one {s : Shared} {fd : FuncData} {x : Str} {d1 : D} (h : ∀ a, bindArgs fd ⟨[a], []⟩ = pure [(x, a)]) {vs : List Value} (i : IsL s.heap vs [d1]) :
    ∃ ws, BindsTo s fd ⟨vs, []⟩ ([x].zip ws) ∧ IsL s.heap ws [d1] := by
  replace i := i.inv; obtain ⟨_, _, rfl, a, i⟩ := i
  (first | (replace i := i.inv; obtain rfl := i) | (replace i := i.inv; obtain ⟨_, rfl⟩ := i) | cases i)
  exact ⟨_, BindsTo.of_eq (h _), .cons a .nil⟩
theorem BindsTo.two {s : Shared} {fd : FuncData} {x y : Str} {d1 d2 : D} (h : ∀ a b, bindArgs fd ⟨[a, b], []⟩ = pure [(x, a), (y, b)]) {vs : List Value} (i : IsL s.heap vs [d1, d2]) :
    ∃ ws, BindsTo s fd ⟨vs, []⟩ ([x, y].zip ws) ∧ IsL s.heap ws [d1, d2] := by
  replace i := i.inv; obtain ⟨_, _, rfl, a, i⟩ := i
  replace i := i.inv; obtain ⟨_, _, rfl, b, i⟩ := i
  (first | (replace i := i.inv; obtain rfl := i) | (replace i := i.inv; obtain ⟨_, rfl⟩ := i) | cases i)
  exact ⟨_, BindsTo.of_eq (h _ _), .cons a (.cons b .nil)⟩
theorem BindsTo.three {s : Shared} {fd : FuncData} {x y z : Str} {d1 d2 d3 : D} (h : ∀ a b c, bindArgs fd ⟨[a, b, c], []⟩ = pure [(x, a), (y, b), (z, c)]) {vs : List Value} (i : IsL s.heap vs [d1, d2, d3]) :
    ∃ ws, BindsTo s fd ⟨vs, []⟩ ([x, y, z].zip ws) ∧ IsL s.heap ws [d1, d2, d3] := by
  replace i := i.inv; obtain ⟨_, _, rfl, a, i⟩ := i
  replace i := i.inv; obtain ⟨_, _, rfl, b, i⟩ := i
  replace i := i.inv; obtain ⟨_, _, rfl, c, i⟩ := i
  (first | (replace i := i.inv; obtain rfl := i) | (replace i := i.inv; obtain ⟨_, rfl⟩ := i) | cases i)
  exact ⟨_, BindsTo.of_eq (h _ _ _), .cons a (.cons b (.cons c .nil))⟩
theorem BindsTo.four {s : Shared} {fd : FuncData} {x y z u : Str} {d1 d2 d3 d4 : D} (h : ∀ a b c d, bindArgs fd ⟨[a, b, c, d], []⟩ = pure [(x, a), (y, b), (z, c), (u, d)]) {vs : List Value} (i : IsL s.heap vs [d1, d2, d3, d4]) :
    ∃ ws, BindsTo s fd ⟨vs, []⟩ ([x, y, z, u].zip ws) ∧ IsL s.heap ws [d1, d2, d3, d4] := by
  replace i := i.inv; obtain ⟨_, _, rfl, a, i⟩ := i
  replace i := i.inv; obtain ⟨_, _, rfl, b, i⟩ := i
  replace i := i.inv; obtain ⟨_, _, rfl, c, i⟩ := i
  replace i := i.inv; obtain ⟨_, _, rfl, d, i⟩ := i
  (first | (replace i := i.inv; obtain rfl := i) | (replace i := i.inv; obtain ⟨_, rfl⟩ := i) | cases i)
  exact ⟨_, BindsTo.of_eq (h _ _ _ _), .cons a (.cons b (.cons c (.cons d .nil)))⟩
end
theorem CalP.fn {G : Gd} {n : Nat} {H : Hp} {d : D} {f : Addr} {name qual : Str} {params : Arguments} {body : List Stmt} {scope : Scope} {dV kV doc pm cdv ct oc : Value} {an od : Option Addr} {osl : Array (Option Value)} {ds es : List D} (ks : List Str)
    (ho : G.K.lookup f = some ⟨oc, od, .func (fnOf name qual params body scope dV kV doc pm an cdv ct), osl⟩) (hcd : codeIn G.K cdv qual = true)
    (hbind : ∀ B, TopOk G B → ∀ s vs, (∀ b o, B.get? b = some o → s.heap.get? b = some o) → IsL s.heap vs ds → ∃ ws, BindsTo s (fnOf name qual params body scope dV kV doc pm an cdv ct) ⟨vs, []⟩ (ks.zip ws) ∧ IsL s.heap ws es)
    (h : ∀ L, H L = none → ExP G n (envX qual scope L f cdv []) (locOf ks es) H body d)
    (hcell : ∀ x ∈ scope.names, x.2 ≠ .cell := by decide) (hloc : ∀ k ∈ ks, scope.names.lookup k = some .local := by decide)
    (hco : scope.isCoroutine = false := by rfl) (hgen : scope.isGenerator = false := by rfl) (hk : scope.kind = .function := by rfl) : CalP G (n + 1) H (.ref f) ds d := ⟨Cal.fn ks ho hcd hbind (fun L hL => Ex.mono (h L hL).h fun fl _ H' ⟨a, b⟩ => by subst a; exact ⟨rfl, b⟩) hcell hloc hco hgen hk⟩

end
section
set_option tactic.hygienic false

noncomputable def isTgt : Expr → Bool
  | .Name _ _ => true
  | .Tuple _ _ _ => true
  | _ => false

inductive FrP {β : Type} (p : Hp → Hp) (f : Hp → Prop) (Q : β → Hp → Prop) (d : β) (H' : Hp) : Prop
  | mk (H'' : Hp) (e : H' = p H'') (n : f H'') (q : Q d H'')
structure Src (G : Gd) where
  it : Addr
  tgt : Expr → Bool
  items : List D
  put : Nat → Hp → Hp
  fresh : Hp → Prop
  ok : Hp → Prop
  frame : ∀ {α β : Type} {R : Heap → α → β → Prop} {n : Nat} {H : Hp} {s : Shared} {t : Sem α} {Q : β → Hp → Prop} {k : Nat}, At R G n H s t Q → fresh H → At R G n (put k H) s t (FrP (put k) fresh Q)
  comm : ∀ {k k' : Nat} {H H' : Hp} {a : Addr} {x : X}, fresh H → fresh H' → (put k' H') a = none → fresh (H.set a x) ∧ put k (H.set a x) = (put k H).set a x ∧ (put k H) a = H a
  self : ∀ {k : Nat} {H : Hp} {B : Heap} {A : Around} {s : Shared}, fresh H → Sat G B (put k H) s.heap → wpAny (model G.prog G.w) A (pyIter (.ref it)) (fun v s' => v = .ref it ∧ s' = s) (fun _ _ => False) s
  sub : ∀ {k : Nat} {H : Hp} {a : Addr} {x : X}, fresh H → H a = some x → (put k H) a = some x
  okSet : ∀ {H : Hp} {a : Addr} {x : X}, H a = none → ok H → ok (H.set a x)
  head : ∀ {target : Expr} {k : Nat} {d : D} {H : Hp} {B : Heap} {A : Around} {s : Shared}, tgt target = true → items[k]? = some d → fresh H → ok H → TopOk G B → Ok A 1 → Sat G B (put k H) s.heap →
    wpAny (model G.prog G.w) A (pyNext (.ref it)) (fun r s₁ => ∃ v, r = some v ∧ wpAny (model G.prog G.w) A (letOwnedTupleGo target (.ref it) v) (fun _ s₂ => Is s₂.heap v d ∧ Sat G B (put (k + 1) H) s₂.heap ∧ Step s s₂) (fun _ _ => False) s₁) (fun _ _ => False) s
  done : ∀ {k : Nat} {H : Hp} {B : Heap} {A : Around} {s : Shared}, k = items.length → fresh H → ok H → TopOk G B → Ok A 1 → Sat G B (put k H) s.heap →
    wpAny (model G.prog G.w) A (pyNext (.ref it)) (fun r s₁ => r = none ∧ Sat G B H s₁.heap ∧ Step s s₁) (fun _ _ => False) s

noncomputable def Itr (G : Gd) (n : Nat) (H : Hp) (d : D) (tgt : Expr → Bool) (H₀ : Hp) (items : List D) (ok : Hp → Prop) : Prop := ∀ s v, Is s.heap v d →
  At (fun _ v (S : Src G) => v = .ref S.it) G n H s (pyIter v) fun S H' => S.tgt = tgt ∧ S.items = items ∧ S.ok = ok ∧ S.fresh H₀ ∧ H' = S.put 0 H₀

noncomputable def Lp (G : Gd) (n : Nat) (env : Env) (target : Expr) (body : List Stmt) (ok : Hp → Prop) : List D → Loc → Hp → (Fl → Loc → Hp → Prop) → Prop
  | [], m, H, Q => ok H ∧ Q .next m H
  | d :: ds, m, H, Q => ok H ∧ Asg G n env m H target d fun m1 H1 => Ex G n env m1 H1 body fun fl m2 H2 => match fl with
    | .next => Lp G n env target body ok ds m2 H2 Q
    | .cont => Lp G n env target body ok ds m2 H2 Q
    | .brk => Q .next m2 H2
    | .ret r => Q (.ret r) m2 H2

section
variable {G : Gd} {n : Nat} {env : Env} {m : Loc} {H : Hp} {Q : Fl → Loc → Hp → Prop} {rest : List Stmt}
inductive LpI (S : Src G) (n : Nat) (env : Env) (target : Expr) (body : List Stmt) (B : Heap) (s₀ : Shared) (Q : Fl → Loc → Hp → Prop) (j : Nat) (s' : Shared) : Prop
  | mk (k : Nat) (m : Loc) (H : Hp) (hj : j = S.items.length - k) (l : H env.locals = none) (f : S.fresh (H.set env.locals (.ns m))) (hS : Sat G B (S.put k (H.set env.locals (.ns m))) s'.heap) (st : Step s₀ s') (hk : k ≤ S.items.length) (q : Lp G n env target body S.ok (S.items.drop k) m H Q)
theorem loop_run (S : Src G) {target : Expr} {body : List Stmt} (ht : S.tgt target = true) {B : Heap} {A : Around} {s₀ : Shared} (T : TopOk G B) (O : Ok A n) (hn : 1 ≤ n) {s : Shared} {k : Nat} {m : Loc} {H : Hp}
    (hL : H env.locals = none) (hf : S.fresh (H.set env.locals (.ns m)))
    (hS : Sat G B (S.put k (H.set env.locals (.ns m))) s.heap) (st : Step s₀ s) (hk : k ≤ S.items.length) (h : Lp G n env target body S.ok (S.items.drop k) m H Q) :
    codeAny (model G.prog G.w) A (.forLoop target (.ref S.it) body [] env) (fun r s' => ∃ f, r = .ok f ∧ Got IsF G B s₀ (FS env.locals Q) f s') s := by
  refine codeAny_forLoop_any (LpI S n env target body B s₀ Q)
    ?_ (S.items.length - k) ⟨k, m, H, rfl, hL, hf, hS, st, hk, h⟩
  rintro j s' ⟨k, m, H, rfl, hL, hf, hS, st, hk, h⟩
  by_cases hlt : k < S.items.length
  · have e : S.items.drop k = S.items[k] :: S.items.drop (k + 1) := List.drop_eq_getElem_cons hlt
    rw [e] at h
    obtain ⟨hok, h⟩ := h
    have hi : S.items[k]? = some S.items[k] := List.getElem?_eq_getElem hlt
    refine wpAny_mono (S.head ht hi hf (S.okSet hL hok) T (O.le hn) hS) ?_ fun _ _ z => z.elim
    rintro r s1 ⟨v, rfl, h1⟩
    refine wpAny_mono h1 ?_ fun _ _ z => z.elim
    rintro _ s2 ⟨i2, S2, st2⟩
    refine wpAny_mono (S.frame (h s2 v hL i2) hf B A T O S2) ?_ fun _ _ z => z.elim
    rintro _ s3 ⟨_, _, _, S3, st3, _, rfl, hf3, m3, H3, rfl, hL3, h3⟩
    refine wpAny_mono (S.frame (h3 s3 hL3) hf3 B A T O S3) ?_ fun _ _ z => z.elim
    rintro f s4 ⟨fl, _, i4, S4, st4, _, rfl, hf4, m4, H4, rfl, hL4, h4⟩
    have st' : Step s₀ s4 := ((st.trans st2).trans st3).trans st4
    have drop : ∀ {m' : Loc} {H' : Hp}, S.fresh (H'.set env.locals (.ns m')) → Sat G B (S.put (k + 1) (H'.set env.locals (.ns m'))) s4.heap → Sat G B (H'.set env.locals (.ns m')) s4.heap := fun b c => c.forget fun x y e => S.sub b e
    cases i4 with
    | next => exact ⟨_, by one_sign, k + 1, m4, H4, rfl, hL4, hf4, S4, st', by one_sign, h4⟩
    | cont => exact ⟨_, by one_sign, k + 1, m4, H4, rfl, hL4, hf4, S4, st', by one_sign, h4⟩
    | brk => exact ⟨_, rfl, .next, _, .next, drop hf4 S4, st', m4, H4, rfl, hL4, h4⟩
    | ret a => exact ⟨_, rfl, _, _, .ret a, drop hf4 S4, st', m4, H4, rfl, hL4, h4⟩
  · obtain rfl : k = S.items.length := by one_sign
    rw [List.drop_length] at h
    refine wpAny_mono (S.done rfl hf (S.okSet hL h.1) T (O.le hn) hS) ?_ fun _ _ z => z.elim
    rintro r s1 ⟨rfl, S1, st1⟩
    exact wpAny_execs_nil ⟨_, rfl, .next, _, .next, S1, st.trans st1, m, H, rfl, hL, h.2⟩
theorem Ex.for' {target iter : Expr} {body : List Stmt} {pos : Pos} (hn : 1 ≤ n)
    (h : Ev G n env m H iter fun d H1 => ∃ tgt H₀ ds ok, Itr G n H1 d tgt H₀ ds ok ∧ tgt target = true ∧ H₀ env.locals = none ∧ Lp G n env target body ok ds m H₀ (Thn G n env rest Q))
    (hs : ∀ x, foldedSetIterable iter env x = pure x := by intro _; rfl) : Ex G n env m H (.For target iter body [] pos :: rest) Q := Ex.cons fun s hL B A T O S => by
  refine wpAny_For (wpAny_mono (h s hL B A T O S) ?_ fun _ _ z => z) hs
  rintro v s1 ⟨d, _, i, S1, st1, H1, rfl, hL1, tgt, H₀, ds, ok, it, ht, hL0, lp⟩
  refine wpAny_mono ((it s1 v i).frame hL1 B A T O S1) ?_ fun _ _ z => z
  rintro _ s2 ⟨Sr, _, rfl, S2, st2, _, rfl, hL2, rfl, rfl, rfl, hf, rfl⟩
  obtain ⟨hf', hc, _⟩ := Sr.comm (k := 0) (x := .ns m) hf hf hL2
  refine codeAny_mono (loop_run Sr ht T O hn hL0 hf' (k := 0) (by rw [hc]; exact S2) (st1.trans st2) (Nat.zero_le _) lp) ?_
  rintro r s3 ⟨f, rfl, fl, H', i', S', st', q⟩
  exact ⟨fl, H', i', S', st', q⟩
end

end
section
set_option tactic.hygienic false

noncomputable def isNm : Expr → Bool
  | .Name _ _ => true
  | _ => false
noncomputable def isTp : Expr → Bool
  | .Tuple _ _ _ => true
  | _ => false

noncomputable def litX (l : Addr) (k : Nat) : X := .raw (fun _ o => o.cls = .type "list_iterator" ∧ o.data = .fields #[.ref l, .int k 0]) fun _ _ _ _ h => h
noncomputable def ritX (x left : Int) : X := .raw (fun _ o => o = { cls := .type "range_iterator", dict := none, data := .fields #[rawInt x, rawInt left, rawInt 1], slots := #[] }) fun _ _ _ _ h => h
noncomputable def titX (ds : List D) (k : Nat) : X := .raw (fun h o => ∃ t vs, IsTup h t (List.toArray vs) ∧ IsL h vs ds ∧ o.cls = .type "tuple_iterator" ∧ o.data = .fields #[.ref t, .int k 0]) fun _ _ _ kp ⟨t, vs, a, b, c⟩ => ⟨t, vs, kp.tup a, b.mono kp, c⟩
noncomputable def enuX (it : Addr) (k : Nat) : X := .raw (fun _ o => ∃ old, o = { cls := .type "enumerate", dict := none, data := .fields #[.none, .bool false, .ref it, rawInt k, .none, old], slots := #[] }) fun _ _ _ _ h => h

section
variable {G : Gd} {B : Heap} {H : Hp} {h : Heap} {s : Shared} {A : Around}
theorem raw_at {a : Addr} {P hP} (S : Sat G B H h) (e : H a = some (.raw P hP)) : ∃ o, h.get? a = some o ∧ imm o = false ∧ P h o := (S.own _ _ e).2
noncomputable def Src.one (it : Addr) (tgt : Expr → Bool) (items : List D) (E : Nat → X) (ok : Hp → Prop) (okSet : ∀ {H : Hp} {a : Addr} {x : X}, H a = none → ok H → ok (H.set a x))
    (head : ∀ {target : Expr} {k : Nat} {d : D} {H : Hp} {B : Heap} {A : Around} {s : Shared}, tgt target = true → items[k]? = some d → H it = none → ok H → TopOk G B → Ok A 1 → Sat G B (H.set it (E k)) s.heap →
      wpAny (model G.prog G.w) A (pyNext (.ref it)) (fun r s₁ => ∃ v, r = some v ∧ wpAny (model G.prog G.w) A (letOwnedTupleGo target (.ref it) v) (fun _ s₂ => Is s₂.heap v d ∧ Sat G B (H.set it (E (k + 1))) s₂.heap ∧ Step s s₂) (fun _ _ => False) s₁) (fun _ _ => False) s)
    (done : ∀ {k : Nat} {H : Hp} {B : Heap} {A : Around} {s : Shared}, k = items.length → H it = none → ok H → TopOk G B → Ok A 1 → Sat G B (H.set it (E k)) s.heap →
      wpAny (model G.prog G.w) A (pyNext (.ref it)) (fun r s₁ => r = none ∧ Sat G B H s₁.heap ∧ Step s s₁) (fun _ _ => False) s)
    (self : ∀ {k : Nat} {H : Hp} {B : Heap} {A : Around} {s : Shared}, Sat G B (H.set it (E k)) s.heap → wpAny (model G.prog G.w) A (pyIter (.ref it)) (fun v s' => v = .ref it ∧ s' = s) (fun _ _ => False) s) : Src G where
  it := it
  tgt := tgt
  items := items
  put := fun k H => H.set it (E k)
  fresh := fun H => H it = none
  ok := ok
  frame := fun h hf => (h.frame hf).mono fun _ _ ⟨H'', a, b, c⟩ => ⟨H'', a, b, c⟩
  comm := fun {k k' H H' a x} hf hf' hp => by
    have ne : a ≠ it := fun z => by subst z; rw [Hp.set_self] at hp; cases hp
    exact ⟨by rw [Hp.set_ne _ _ (Ne.symm ne)]; exact hf, Hp.set_comm _ _ _ ne, Hp.set_ne _ _ ne⟩
  self := fun _ => self
  sub := fun {k H a x} hf ha => by
    have ne : a ≠ it := fun z => by subst z; rw [show H a = none from hf] at ha; cases ha
    rw [Hp.set_ne _ _ ne]; exact ha
  okSet := okSet
  head := head
  done := done

theorem isTp_of {t : Expr} (h : isTgt t = true) (hn : isNm t = false) : ∃ e k p, t = .Tuple e k p := by
  unfold isTgt at h; split at h
  · cases hn
  · exact ⟨_, _, _, rfl⟩
  · cases h
theorem isTp_is {t : Expr} (h : isTp t = true) : ∃ e k p, t = .Tuple e k p := by
  unfold isTp at h; split at h
  · exact ⟨_, _, _, rfl⟩
  · cases h
theorem letGo_name {target : Expr} {it : Value} {v : Value} (h : isNm target = true) : letOwnedTupleGo target it v = pure () := by
  unfold isNm at h; split at h
  · rfl
  · cases h
theorem Sat.drop {a : Addr} {x : X} (S : Sat G B (H.set a x) h) (ha : H a = none) : Sat G B H h := S.forget fun b y e => by
  have ne : b ≠ a := fun z => by subst z; rw [ha] at e; cases e
  rw [Hp.set_ne _ _ ne]; exact e
theorem Sat.dropBut {a : Addr} {x : X} {h' : Heap} (S : Sat G B (H.set a x) h) (ha : H a = none) (he : Heap.ExtBut a h h') : Sat G B H h' ∧ TupKeep h h' := by
  have hb := (S.own a x (Hp.set_self ..)).1
  obtain ⟨o, h1, h2⟩ := (S.own a x (Hp.set_self ..)).2.root
  have k : TupKeep h h' := fun b o' e q => by
    by_cases z : b = a
    · subst z; rw [h1] at e; cases e; rw [h2] at q; cases q
    · exact he b o' z e
  refine ⟨⟨fun b o' e => he b o' (fun z => by subst z; rw [hb] at e; cases e) (S.keep b o' e), fun b y e => ?_, S.low, fun b y e => S.off b y (by
    have ne : b ≠ a := fun z => by subst z; rw [ha] at e; cases e
    rw [Hp.set_ne _ _ ne]; exact e)⟩, k⟩
  have ne : b ≠ a := fun z => by subst z; rw [ha] at e; cases e
  have z := S.own b y (by rw [Hp.set_ne _ _ ne]; exact e)
  exact ⟨z.1, z.2.move k fun o e => he b o ne e⟩

-- ranges
noncomputable def rngL (lo hi : Int) : List D := (List.range (hi - lo).toNat).map fun k => .int (lo + (k : Nat))
theorem rngL_len (lo hi : Int) : (rngL lo hi).length = (hi - lo).toNat := by simp [rngL]
theorem rngL_get (lo hi : Int) {k : Nat} (h : k < (hi - lo).toNat) : (rngL lo hi)[k]? = some (.int (lo + (k : Nat))) := by simp [rngL, h]
noncomputable def srcR (it : Addr) (lo hi : Int) : Src G :=
  Src.one it isNm (rngL lo hi) (fun k => ritX (lo + (k : Nat)) ((hi - lo).toNat - (k : Nat))) (fun _ => True) (fun _ _ => trivial)
    (by
      intro target k d H B A s ht hi' hf _ T O S
      have hk : k < (hi - lo).toNat := by have := (List.getElem?_eq_some_iff.mp hi').1; rwa [rngL_len] at this
      rw [rngL_get lo hi hk] at hi'; cases hi'
      obtain ⟨o, h1, _, h2⟩ := raw_at S (Hp.set_self ..)
      subst h2
      refine wpAny_pyNext_range_item h1 (by one_sign) fun h' hr hs => ⟨_, rfl, ?_⟩
      rw [letGo_name ht]
      have kp := S.tupBut (Hp.set_self ..) hs
      refine wpAny_pure ⟨.int _ _, ?_, .mk' kp⟩
      have z := S.upd (x' := ritX (lo + ((k + 1 : Nat) : Int)) ((hi - lo).toNat - ((k + 1 : Nat) : Int))) (Hp.set_self ..) hs ⟨_, hr, rfl, by
        rw [show lo + ((k + 1 : Nat) : Int) = lo + (k : Int) + 1 by one_sign, show ((hi - lo).toNat : Int) - ((k + 1 : Nat) : Int) = (hi - lo).toNat - (k : Int) - 1 by one_sign]⟩
      rwa [Hp.set_set] at z)
    (by
      intro k H B A s hk hf _ T O S
      rw [rngL_len] at hk
      obtain ⟨o, h1, _, h2⟩ := raw_at S (Hp.set_self ..)
      subst h2
      refine wpAny_pyNext_range_end O.handled h1 (by one_sign) fun h' he => ?_
      obtain ⟨S', kp⟩ := S.dropBut hf he
      exact ⟨rfl, S', .hp kp⟩)
    (by
      intro k H B A s S
      obtain ⟨o, h1, _, h2⟩ := raw_at S (Hp.set_self ..)
      subst h2
      exact wpAny_pyIter_rangeiter h1 ⟨rfl, rfl⟩)
theorem size_one {lo hi : Int} : Builtin.Range.rangeSize lo hi 1 = ((hi - lo).toNat : Int) := by
  rw [rangeSize_one]; split <;> one_sign
theorem Itr.rng {n : Nat} {lo hi : Int} (h1 : -(2 ^ 62) ≤ lo := by one_sign) (h2 : lo < 2 ^ 62 := by one_sign) (h3 : -(2 ^ 62) ≤ hi := by one_sign) (h4 : hi < 2 ^ 62 := by one_sign) : Itr G n H (.rng lo hi) isNm H (rngL lo hi) fun _ => True := by
  intro s v i B A T O S
  replace i := i.inv; obtain ⟨_, _, _, _, rfl, r⟩ := i
  refine wpAny_pyIter_range r (small_one h1 h2 h3 h4) ?_
  have kp := push_keeps s.heap { cls := .type "range_iterator", data := .fields #[rawInt lo, rawInt (Builtin.Range.rangeSize lo hi 1), rawInt 1] }
  have hf := S.fresh (Nat.le_refl _)
  refine ⟨srcR s.heap.objs.size lo hi, _, rfl, ?_, .hp (.keeps kp), rfl, rfl, rfl, hf, rfl⟩
  · refine S.new kp (Nat.le_refl _) ⟨_, Heap.get?_push_size _ rfl, rfl, ?_⟩
    rw [size_one]
    show ({ cls := _, dict := _, data := .fields #[rawInt lo, rawInt _, rawInt 1], slots := _ } : Obj) = { cls := _, dict := _, data := .fields #[rawInt (lo + ((0 : Nat) : Int)), rawInt _, rawInt 1], slots := _ }
    rw [show lo + ((0 : Nat) : Int) = lo by one_sign, show ((hi - lo).toNat : Int) - ((0 : Nat) : Int) = (hi - lo).toNat by one_sign]

-- lists
noncomputable def srcL (it l : Addr) (ds : List D) : Src G :=
  Src.one it isTgt ds (fun k => litX l k) (fun H => H l = some (.lst ds)) (fun {H a x} ha h => by
      have ne : l ≠ a := fun z => by subst z; rw [ha] at h; cases h
      rw [Hp.set_ne _ _ ne]; exact h)
    (by
      intro target k d H B A s ht hi hf hl T O S
      have ne : l ≠ it := fun z => by subst z; rw [hf] at hl; cases hl
      obtain ⟨o, h1, _, h2, h3⟩ := raw_at S (Hp.set_self ..)
      obtain ⟨_, vs, t, i⟩ := S.own l _ ((Hp.set_ne _ _ ne).trans hl)
      obtain ⟨v, hv, iv⟩ := i.get hi
      refine wpAny_pyNext_list_item (i := k) ⟨o, h1, h2, h3⟩ t.isList (by simpa using hv) fun h' hr hs => ⟨_, rfl, ?_⟩
      have kp := S.tupBut (Hp.set_self ..) hs
      have z := S.upd (x' := litX l (k + 1)) (Hp.set_self ..) hs (by
        obtain ⟨o', a, b, c⟩ := hr
        exact ⟨o', a, by unfold imm; rw [c, b]; exact (by decide : (Value.type "list_iterator" == Value.type "range") = false), b, c⟩)
      rw [Hp.set_set] at z
      have fin : Is h' v d ∧ Sat G B (H.set it (litX l (k + 1))) h' ∧ Step s { s with heap := h' } := ⟨iv.mono kp, z, .hp kp⟩
      cases hn : isNm target with
      | true => rw [letGo_name hn]; exact wpAny_pure fin
      | false =>
        obtain ⟨elts, kk, pos, rfl⟩ := isTp_of ht hn
        cases iv with
        | ref => exact wpAny_letOwnedTupleGo_listiter hr fin
        | tup => exact wpAny_letOwnedTupleGo_listiter hr fin
        | rng => exact wpAny_letOwnedTupleGo_listiter hr fin
        | _ => exact wpAny_pure fin)
    (by
      intro k H B A s hk hf hl T O S
      have ne : l ≠ it := fun z => by subst z; rw [hf] at hl; cases hl
      obtain ⟨o, h1, _, h2, h3⟩ := raw_at S (Hp.set_self ..)
      obtain ⟨_, vs, t, i⟩ := S.own l _ ((Hp.set_ne _ _ ne).trans hl)
      refine wpAny_pyNext_list_end O.handled (i := k) ⟨o, h1, h2, h3⟩ t.isList (by
        have := i.length
        simp; one_sign) fun h' he => ?_
      obtain ⟨S', kp⟩ := S.dropBut hf he
      exact ⟨rfl, S', .hp kp⟩)
    (by
      intro k H B A s S
      obtain ⟨o, h1, _, h2, h3⟩ := raw_at S (Hp.set_self ..)
      exact wpAny_pyIter_listiter (i := k) ⟨o, h1, h2, h3⟩ ⟨rfl, rfl⟩)
theorem Itr.lst {n : Nat} {l : Addr} {ds : List D} (hl : H l = some (.lst ds)) : Itr G n H (.ref l) isTgt H ds fun H => H l = some (.lst ds) := by
  intro s v i B A T O S
  (first | (replace i := i.inv; obtain rfl := i) | (replace i := i.inv; obtain ⟨_, rfl⟩ := i) | cases i)
  obtain ⟨_, vs, t, i⟩ := S.own l _ hl
  refine wpAny_pyIter_list t.isList ?_
  have kp := push_keeps s.heap { cls := .type "list_iterator", data := .fields #[.ref l, .int 0 0] }
  have hf := S.fresh (Nat.le_refl _)
  refine ⟨srcL s.heap.objs.size l ds, _, rfl, ?_, .hp (.keeps kp), rfl, rfl, rfl, hf, rfl⟩
  · exact S.new (x := litX l 0) kp (Nat.le_refl _) ⟨_, Heap.get?_push_size _ rfl, rfl, rfl, rfl⟩
end

end
section
set_option tactic.hygienic false

noncomputable def sput (x : Str) (d : D) : List (D × D) → List (D × D)
  | [] => [(.str x, d)]
  | (.str y, e) :: r => if y = x then (.str y, d) :: r else (.str y, e) :: sput x d r
  | p :: r => p :: sput x d r
theorem Ent.putL {P : Params} {h : Heap} {x : Str} {t : Tok} {v : Value} {d : D} (i : Is h v d) : ∀ {es : List DictEntry} {l : List (D × D)}, Ent P h es l → Ent P h (putL x (PyData.keyHash P x) (.str x t) v es) (sput x d l)
  | _, _, .nil => .str rfl rfl i .nil
  | _, _, .str (e := e) (s := y) a b c r => by
    unfold PySem.W.putL sput
    by_cases q : y = x
    · have z : e.key.isStr x = true := by rw [a]; simp [Value.isStr, q]
      rw [if_pos q, z]; exact .str a b i r
    · have z : e.key.isStr x = false := by rw [a]; simp [Value.isStr, q]
      rw [if_neg q, z]; exact .str a b c (r.putL i)
  | _, _, .int (e := e) (i := y) a b c r => by
    unfold PySem.W.putL sput
    have z : e.key.isStr x = false := by rw [a]; rfl
    rw [z]; exact .int a b c (r.putL i)
theorem Ent.length {P : Params} {h : Heap} : ∀ {es : List DictEntry} {l : List (D × D)}, Ent P h es l → es.length = l.length
  | _, _, .nil => rfl
  | _, _, .str _ _ _ r => by simp [r.length]
  | _, _, .int _ _ _ r => by simp [r.length]
theorem putL_len (x : Str) (hsh : Int) (k v : Value) : ∀ es : List DictEntry, (PySem.W.putL x hsh k v es).length ≤ es.length + 1
  | [] => by simp [PySem.W.putL]
  | e :: r => by
    have := putL_len x hsh k v r
    unfold PySem.W.putL
    split <;> simp only [List.length_cons] <;> one_sign

section
variable {G : Gd} {n : Nat} {env : Env} {m : Loc} {H : Hp} {Q : D → Hp → Prop}

theorem SetA.own {x C dx l name d} {QH : Hp → Prop} (h1 : H x = some (.ins C dx)) (h2 : H dx = some (.dct l)) (hs : findIn G.K (.ref C) "__setattr__" = some (some (.builtin "object.__setattr__"))) (hp : plainOver G.K C = true) (ht : takerIn G.K C name = some none) (hh : hasDictIn G.K C = true)
    (q : QH (H.set dx (.dct (sput name d l)))) (hz : l.length ≤ 900 := by decide) : SetA G n H (.ref x) name d QH := fun s v1 v2 i j B A T O S => by
  (first | (replace i := i.inv; obtain rfl := i) | (replace i := i.inv; obtain ⟨_, rfl⟩ := i) | cases i)
  obtain ⟨es, k, I, en⟩ := inst_at S h1 h2
  have X := T.k.keeps S.keep
  refine set_plain X I hs (osa_open (s := { s with toks := s.toks + 1 }) X I hp ht fun b => ?_)
  obtain ⟨cd, hc, hd'⟩ := any_some hh
  obtain ⟨hx, -, -, hdx⟩ := I
  let f := Obj.putName name (PyData.keyHash G.w.params name) (.str name (s.toks + 1)) v2
  have D1 : s.heap.get? dx = some (dictOf es k) := hdx
  have hf : f (dictOf es k) = dictOf (PySem.W.putL name (PyData.keyHash G.w.params name) (.str name (s.toks + 1)) v2 es) (putN name es k) := putName_dict _ _ _ _ _ _
  have D2 : (s.heap.update dx f).get? dx = some (f (dictOf es k)) := Heap.get?_update_self f D1 (by rw [hf]; rfl)
  refine wpAny_bind (wpAny_pure (wpAny_bind (wpAny_bind (wpAny_loadPart hx (wpAny_bind ((looks_clsIn (h := s.heap) X hc).here (s := { s with toks := s.toks + 1 }) ?_))))))
  rw [hd']
  refine wpAny_pure (a := some dx) (wpAny_bind (wpAny_pure (wpAny_bind ?_)))
  unfold nsSet
  refine wpAny_bind (wpAny_bind (wpAny_askSetting (wpAny_pure (wpAny_bind (wpAny_mkText (wpAny_bind (wpAny_loadPart D1 ?_)))))))
  dsimp only
  have c : (!es.toArray.any (·.key.isStr name) && es.toArray.any (·.refKey)) = false := by
    rw [← Array.any_toList, ← Array.any_toList]
    show (_ && es.any (·.refKey)) = false
    rw [en.noRef, Bool.and_false]
  rw [aRefKeyMayBeTheName_at, c]
  refine wpAny_updatePart D1 ?_
  refine wpAny_bind (wpAny_lookBehind D2 (by
    rw [hf]
    exact pastItsLine_dict (by
      have e1 := putL_len name (PyData.keyHash G.w.params name) (.str name (s.toks + 1)) v2 es
      have e2 := en.length
      rw [List.size_toArray, sizeLine_eq]; one_sign)) ?_)
  have hsb : Heap.SameBut dx s.heap (s.heap.update dx f) := Heap.SameBut.update ..
  have kp := S.tupBut h2 hsb
  refine wpAny_pure ⟨(), _, rfl, S.upd (x' := .dct (sput name d l)) h2 hsb ⟨_, _, _, D2, by rw [hf]; exact ⟨rfl, rfl, rfl⟩, by rw [hf], (en.mono kp).putL (j.mono kp)⟩, .mk' kp, q⟩

noncomputable def CalC (G : Gd) (n : Nat) (H : Hp) (f : Value) (ds : List D) (Q : D → Hp → Prop) : Prop := ∀ s vs, IsL s.heap vs ds → ∀ B A, TopOk G B → Ok A n → Sat G B H s.heap →
  codeAny (model G.prog G.w) A (.call f ⟨vs, []⟩) (fun r s' => ∃ v d H', r = .ok (.ret v) ∧ Is s'.heap v d ∧ Sat G B H' s'.heap ∧ Step s s' ∧ Q d H') s
theorem CalC.cal {f ds} (h : CalC G n H f ds Q) : Cal G n H f ds Q := fun s vs i B A T O S =>
  wpAny_call (codeAny_mono (h s vs i B A T O S) fun r s' ⟨v, d, H', e, a, b, c, q⟩ => by subst e; exact ⟨d, H', a, b, c, q⟩)
theorem CalC.fn {f : Addr} {name qual : Str} {params : Arguments} {body : List Stmt} {scope : Scope} {dV kV doc pm cdv ct oc : Value} {an od : Option Addr} {osl : Array (Option Value)} {ds es : List D} (ks : List Str)
    (ho : G.K.lookup f = some ⟨oc, od, .func (fnOf name qual params body scope dV kV doc pm an cdv ct), osl⟩) (hcd : codeIn G.K cdv qual = true)
    (hbind : ∀ B, TopOk G B → ∀ s vs, (∀ b o, B.get? b = some o → s.heap.get? b = some o) → IsL s.heap vs ds → ∃ ws, BindsTo s (fnOf name qual params body scope dV kV doc pm an cdv ct) ⟨vs, []⟩ (ks.zip ws) ∧ IsL s.heap ws es)
    (h : ∀ L, H L = none → Ex G n (envX qual scope L f cdv []) (locOf ks es) H body fun fl _ H' => Q (retOf fl) H')
    (hcell : ∀ x ∈ scope.names, x.2 ≠ .cell := by decide) (hloc : ∀ k ∈ ks, scope.names.lookup k = some .local := by decide)
    (hco : scope.isCoroutine = false := by rfl) (hgen : scope.isGenerator = false := by rfl) (hk : scope.kind = .function := by rfl) : CalC G (n + 1) H (.ref f) ds Q := by
  intro s vs i B A T O S
  obtain ⟨ws, hb, j⟩ := hbind B T s vs S.keep i
  have hroom : A.depth < recursionLimit := by have := O.depth; one_sign
  refine codeAny_call_def (fd := fnOf name qual params body scope dV kV doc pm an cdv ct) (body := body) hroom (T.k.keeps S.keep _ _ ho) rfl (T.t.nolimit.keeps S.keep) (codeRec_of (T.k.keeps S.keep) hcd) rfl hb hcell
    (fun x hx => hloc x.1 (List.of_mem_zip hx).1) (fun h₁ hns hk₁ => ?_) hco hgen hk
  have hL := S.fresh (Nat.le_refl _)
  have S1 : Sat G B (H.set s.heap.objs.size (.ns (locOf ks es))) h₁ := S.new hk₁ (Nat.le_refl _) ⟨_, hns, fun x d e => let ⟨v, a, b⟩ := locOf_rep j e; ⟨v, a, b.mono (.keeps hk₁)⟩⟩
  refine wpAny_mono (h s.heap.objs.size hL _ hL B _ T (O.deeper _) S1) ?_ fun _ _ z => z.elim
  rintro f' s' ⟨fl, _, i', S', st', m', H', rfl, hL', q⟩
  have fin : ∀ {v d}, Is s'.heap v d → Q d H' → ∃ v' d H', (Except.ok (Flow.ret v) : Result) = .ok (.ret v') ∧ Is s'.heap v' d ∧ Sat G B H' s'.heap ∧ Step s s' ∧ Q d H' := fun {v d} a b =>
    ⟨v, d, H', rfl, a, S'.drop hL', Step.trans (.mk' (.keeps hk₁)) st', b⟩
  cases i' with
  | next => exact fin .none q
  | brk => exact fin .none q
  | cont => exact fin .none q
  | ret a => exact fin a q

theorem Ok.make {A : Around} {c : Addr} {vs : List Value} (O : Ok A (n + 1)) : Ok (A.under (.builtin "type.__call__" ⟨.ref c :: vs, []⟩)) n := by
  have hw : (Code.builtin "type.__call__" ⟨.ref c :: vs, []⟩).weight ≤ 1 := by
    unfold Code.weight
    have e1 : (Code.builtin "type.__call__" ⟨.ref c :: vs, []⟩).frames = 0 := by rfl
    have e2 : (Code.builtin "type.__call__" ⟨.ref c :: vs, []⟩).isGuard = false := (by decide +kernel : guardIds.contains "type.__call__" = false)
    have e3 : (Code.builtin "type.__call__" ⟨.ref c :: vs, []⟩).isCaller = false := by rfl
    rw [e1, e2, e3]; split <;> simp
  have hu : (Code.builtin "type.__call__" ⟨.ref c :: vs, []⟩).cUnits ≤ 10 := by
    first | exact (by decide : (1 : Nat) ≤ 10) | (unfold Code.cUnits; split <;> one_sign)
  refine ⟨O.handled, ?_, ?_⟩
  · show A.depth + (Code.builtin "type.__call__" ⟨.ref c :: vs, []⟩).weight + n < _
    have := O.depth; one_sign
  · show A.units + (Code.builtin "type.__call__" ⟨.ref c :: vs, []⟩).cUnits + 20 * n < _
    have := O.units; one_sign

theorem CalC.cls {C fI : Addr} {ds : List D} (hm : makesIn G.K C = true) (hi : findIn G.K (.ref C) "__init__" = some (some (.ref fI))) (hf : isFn G.K (.ref fI) = true)
    (h : ∀ x dx, H x = none → H dx = none → x ≠ dx → CalC G n ((H.set dx (.dct [])).set x (.ins C dx)) (.ref fI) (.ref x :: ds) fun d H' => d = .none ∧ Q (.ref x) H') : CalC G (n + 1) H (.ref C) ds Q := by
  intro s vs i B A T O S
  have X := T.k.keeps S.keep
  obtain ⟨hh, g, d, t, os⟩ := s
  refine make_core (makes_of X hm) (looks_findIn X hi) (fun self => bind_fn X self (beq_iff_eq.mp hf)) (.inl rfl) ?_
  have k1 := push_keeps hh emptyDict
  have S1 := S.new (x := .dct []) k1 (Nat.le_refl _) ⟨_, [], 0, Heap.get?_push_size _ rfl, ⟨rfl, rfl, rfl⟩, rfl, .nil⟩
  have k2 := push_keeps (hh.push emptyDict) (instObj C hh.objs.size)
  have S2 := S1.new (a := hh.objs.size + 1) (x := .ins C hh.objs.size) k2 (by rw [Heap.size_push]; exact Nat.le_refl _) (by
    have := Heap.get?_push_size (hh.push emptyDict) (o := instObj C hh.objs.size) rfl
    rw [Heap.size_push] at this; exact this)
  have kp : TupKeep hh ((hh.push emptyDict).push (instObj C hh.objs.size)) := .trans (.keeps k1) (.keeps k2)
  have f1 : H hh.objs.size = none := S.fresh (Nat.le_refl _)
  have f2 : H (hh.objs.size + 1) = none := S.fresh (Nat.le_succ _)
  refine codeAny_mono (h (hh.objs.size + 1) hh.objs.size f2 f1 (Nat.succ_ne_self _) ⟨_, g, d, t, os⟩ (.ref (hh.objs.size + 1) :: vs) (.cons (.ref _) (i.mono kp)) B _ T O.make S2) ?_
  rintro r s' ⟨v, d', H', rfl, iv, S', st', rfl, q⟩
  cases iv
  exact ⟨rfl, _, _, _, rfl, .ref _, S', Step.trans (.hp kp) st', q⟩

-- ranges
theorem Cal.rng1 {hi} (q : Q (.rng 0 hi) H) : Cal G n H (.type "range") [.int hi] Q := fun s vs i B A T O S => by
  replace i := i.inv; obtain ⟨_, _, rfl, i, j⟩ := i
  replace i := i.inv; obtain ⟨tk, rfl⟩ := i
  (first | (replace j := j.inv; obtain rfl := j) | (replace j := j.inv; obtain ⟨_, rfl⟩ := j) | cases j)
  have kp := push_keeps s.heap { cls := .type "range", data := .fields #[.int 0 s.toks, .int hi tk, .int 1 (s.toks + 1)] }
  exact call_range_1 ⟨_, H, .rng (IsRange.new ..), S.keeps kp, .mk' (.keeps kp), q⟩
theorem Cal.rng2 {lo hi} (q : Q (.rng lo hi) H) : Cal G n H (.type "range") [.int lo, .int hi] Q := fun s vs i B A T O S => by
  replace i := i.inv; obtain ⟨_, _, rfl, i, j⟩ := i
  replace j := j.inv; obtain ⟨_, _, rfl, j, k⟩ := j
  replace i := i.inv; obtain ⟨tk, rfl⟩ := i
  replace j := j.inv; obtain ⟨tj, rfl⟩ := j
  (first | (replace k := k.inv; obtain rfl := k) | (replace k := k.inv; obtain ⟨_, rfl⟩ := k) | cases k)
  have kp := push_keeps s.heap { cls := .type "range", data := .fields #[.int lo tk, .int hi tj, .int 1 s.toks] }
  exact call_range_2 ⟨_, H, .rng (IsRange.new ..), S.keeps kp, .mk' (.keeps kp), q⟩

-- methods of lists and dicts
theorem Ev.methB {o name apos e rest pos T id} {pl : Sem Bool} (pa : PlainAttrs T) (slot : Slot T name id) (hty : typeOf (.builtin id) = pure (.type "method_descriptor"))
    (h : Ev G n env m H o fun d H1 => ∃ a, d = .ref a ∧ (∀ B h, TopOk G B → Sat G B (H1.set env.locals (.ns m)) h → ∃ ob, h.get? a = some ob ∧ ob.cls = .type T ∧ ob.dict = none) ∧ EvL G n env m H1 pos (e :: rest) fun ds H2 => Cal G n H2 (.builtin id) (.ref a :: ds) Q)
    (he : eval (.Call (.Attribute o name apos) (e :: rest) [] pos) env = (do
      let ov ← eval o env
      standAt apos.atName
      let (f, first) ← holding [ov] (getMethod ov name pl)
      callWith pos f first (backTo pos (starEach (e :: rest) env)) []) := by rfl)
    (hs : starEach (e :: rest) env = (false, eval e env) :: starEach rest env := by rfl) (hp : (backTo pos (starEach rest env)).any (·.1) = false := by rfl) :
    Ev G n env m H (.Call (.Attribute o name apos) (e :: rest) [] pos) Q := by
  intro s hL B A T O S
  refine MethodCall_ (pl := pl) (wpAny_mono (h s hL B A T O S) ?_ fun _ _ z => z) he
  rintro v1 s1 ⟨_, _, i1, S1, st1, H1, rfl, hL1, a, rfl, ha, h1⟩
  (first | (replace i1 := i1.inv; obtain rfl := i1) | (replace i1 := i1.inv; obtain ⟨_, rfl⟩ := i1) | cases i1)
  obtain ⟨ob, g1, g2, g3⟩ := ha B _ T S1
  refine getMethod_builtin ⟨ob, g1, g2⟩ pa slot hty (fun b e => by cases e; exact ⟨ob, g1, g3⟩) ?_
  refine callWith_method1 (wpAny_mono (h1 s1 hL1 B A T O S1) ?_ fun _ _ z => z) hs hp
  rintro vs s2 ⟨ds, _, i2, S2, st2, H2, rfl, hL2, h2⟩
  refine wpAny_mono ((h2 s2 (.ref a :: vs) (.cons (.ref a) i2)).frame hL2 B A T O S2) ?_ fun _ _ z => z
  rintro v3 s3 ⟨d3, H3, i3, S3, st3, q⟩
  exact ⟨d3, H3, i3, S3, (st1.trans st2).trans st3, q⟩
theorem Ev.methB0 {o name apos pos T id} {pl : Sem Bool} (pa : PlainAttrs T) (slot : Slot T name id) (hty : typeOf (.builtin id) = pure (.type "method_descriptor"))
    (h : Ev G n env m H o fun d H1 => ∃ a, d = .ref a ∧ (∀ B h, TopOk G B → Sat G B (H1.set env.locals (.ns m)) h → ∃ ob, h.get? a = some ob ∧ ob.cls = .type T ∧ ob.dict = none) ∧ Cal G n H1 (.builtin id) [.ref a] Q)
    (he : eval (.Call (.Attribute o name apos) [] [] pos) env = (do
      let ov ← eval o env
      standAt apos.atName
      let (f, first) ← holding [ov] (getMethod ov name pl)
      callWith pos f first (backTo pos (starEach [] env)) []) := by rfl) :
    Ev G n env m H (.Call (.Attribute o name apos) [] [] pos) Q := by
  intro s hL B A T O S
  refine MethodCall_ (pl := pl) (wpAny_mono (h s hL B A T O S) ?_ fun _ _ z => z) he
  rintro v1 s1 ⟨_, _, i1, S1, st1, H1, rfl, hL1, a, rfl, ha, h1⟩
  (first | (replace i1 := i1.inv; obtain rfl := i1) | (replace i1 := i1.inv; obtain ⟨_, rfl⟩ := i1) | cases i1)
  obtain ⟨ob, g1, g2, g3⟩ := ha B _ T S1
  refine getMethod_builtin ⟨ob, g1, g2⟩ pa slot hty (fun b e => by cases e; exact ⟨ob, g1, g3⟩) ?_
  refine callWith_method0 (wpAny_mono ((h1 s1 [.ref a] (.cons (.ref a) .nil)).frame hL1 B A T O S1) ?_ fun _ _ z => z)
  rintro v3 s3 ⟨d3, H3, i3, S3, st3, q⟩
  exact ⟨d3, H3, i3, S3, st1.trans st3, q⟩
theorem list_there {L : Addr} {a : Addr} {l : List D} (hL : H L = none) (ha : H a = some (.lst l)) : ∀ B h, TopOk G B → Sat G B (H.set L (.ns m)) h → ∃ ob, h.get? a = some ob ∧ ob.cls = .type "list" ∧ ob.dict = none := fun B h _ S => by
  have ne : a ≠ L := fun z => by subst z; rw [hL] at ha; cases ha
  obtain ⟨_, vs, ⟨k, e⟩, _⟩ := S.own a _ ((Hp.set_ne _ _ ne).trans ha)
  exact ⟨_, e, rfl, rfl⟩
theorem dict_there {L : Addr} {a : Addr} {l : List (D × D)} (hL : H L = none) (ha : H a = some (.dct l)) : ∀ B h, TopOk G B → Sat G B (H.set L (.ns m)) h → ∃ ob, h.get? a = some ob ∧ ob.cls = .type "dict" ∧ ob.dict = none := fun B h _ S => by
  have ne : a ≠ L := fun z => by subst z; rw [hL] at ha; cases ha
  obtain ⟨_, o, es, k, e, e2, _, _⟩ := S.own a _ ((Hp.set_ne _ _ ne).trans ha)
  exact ⟨_, e, e2.1, e2.2.1⟩
theorem Cal.append {a l d} (ha : H a = some (.lst l)) (q : Q .none (H.set a (.lst (l ++ [d])))) (hs : l.length ≤ sizeLine := by decide) : Cal G n H (.builtin "list.append") [.ref a, d] Q := fun s vs i B A T O S => by
  replace i := i.inv; obtain ⟨_, _, rfl, i, j⟩ := i
  replace j := j.inv; obtain ⟨_, _, rfl, j, k⟩ := j
  (first | (replace i := i.inv; obtain rfl := i) | (replace i := i.inv; obtain ⟨_, rfl⟩ := i) | cases i); (first | (replace k := k.inv; obtain rfl := k) | (replace k := k.inv; obtain ⟨_, rfl⟩ := k) | cases k)
  obtain ⟨_, vs, t, i⟩ := S.own a _ ha
  refine wpAny_list_append_plain t (fun h' hl hsb => ?_) (by rw [List.size_toArray, i.length]; exact hs)
  have kp := S.tupBut ha hsb
  exact ⟨_, _, .none, S.upd (x' := .lst (l ++ [d])) ha hsb ⟨vs ++ [_], by rw [List.push_toArray] at hl; exact hl, (i.mono kp).append (.cons (j.mono kp) .nil)⟩, .hp kp, q⟩
end

end
section
set_option tactic.hygienic false

-- dicts whose keys are strs or ints
noncomputable abbrev Ky := Str ⊕ Int
noncomputable def kis : Ky → Value → Bool
  | .inl x, v => Value.isStrOf x v
  | .inr i, v => Value.isInt i v
noncomputable def kd : Ky → D
  | .inl x => .str x
  | .inr i => .int i
theorem kis_is {h : Heap} {k : Ky} {v : Value} (e : kis k v = true) : Is h v (kd k) := by
  cases k with
  | inl x => obtain ⟨t, rfl⟩ := Value.isStrOf_shape e; exact .str _ _
  | inr i => obtain ⟨t, rfl⟩ := Value.isInt_shape e; exact .int _ _
theorem is_kis {h : Heap} {k : Ky} {v : Value} (i : Is h v (kd k)) : kis k v = true := by
  cases k with
  | inl x => (first | (replace i := i.inv; obtain rfl := i) | (replace i := i.inv; obtain ⟨_, rfl⟩ := i) | cases i); simp [kis, Value.isStrOf]
  | inr x => (first | (replace i := i.inv; obtain rfl := i) | (replace i := i.inv; obtain ⟨_, rfl⟩ := i) | cases i); simp [kis, Value.isInt]
noncomputable def mxHash (w : World) : Ky → Int
  | .inl x => hashStr w x
  | .inr i => hashInt i
noncomputable def mx (prog : Program) (w : World) : KeyKind prog w Ky where
  is := kis
  hash := mxHash w
  inj := fun v a b ha hb => by
    cases a <;> cases b
    · rw [Value.isStrOf_inj v _ _ ha hb]
    · obtain ⟨t, rfl⟩ := Value.isStrOf_shape ha; cases hb
    · obtain ⟨t, rfl⟩ := Value.isInt_shape ha; cases hb
    · rw [Value.isInt_inj v _ _ ha hb]
  byValue := fun k v h => by
    cases k with
    | inl x => obtain ⟨t, rfl⟩ := Value.isStrOf_shape h; rfl
    | inr x => obtain ⟨t, rfl⟩ := Value.isInt_shape h; rfl
  pyHash := fun {A E s k v Q} hv h => by
    cases k with
    | inl x => obtain ⟨t, rfl⟩ := Value.isStrOf_shape hv; exact wpAny_pyHash_str h
    | inr x => obtain ⟨t, rfl⟩ := Value.isInt_shape hv; exact wpAny_pyHash_int h
  eqBool := fun {A E s a b u v Q} hu hv h => by
    cases a with
    | inl a =>
      obtain ⟨t, rfl⟩ := Value.isStrOf_shape hu
      cases b with
      | inl b => obtain ⟨t', rfl⟩ := Value.isStrOf_shape hv; exact wpAny_eqBool_str (by simpa using h)
      | inr b => obtain ⟨t', rfl⟩ := Value.isInt_shape hv; exact EqAt.sc (.str _ _) (.int _ _) rfl _ _ _ _ (by simpa [sq] using h)
    | inr a =>
      obtain ⟨t, rfl⟩ := Value.isInt_shape hu
      cases b with
      | inl b => obtain ⟨t', rfl⟩ := Value.isStrOf_shape hv; exact EqAt.sc (.int _ _) (.str _ _) rfl _ _ _ _ (by simpa [sq] using h)
      | inr b => obtain ⟨t', rfl⟩ := Value.isInt_shape hv; exact wpAny_eqBool_int ((show (a == b) = decide ((Sum.inr a : Ky) = Sum.inr b) by by_cases q : a = b <;> simp [q]) ▸ h)
  «strs» := fun k x t v h => by
    cases k with
    | inr i => cases h
    | inl y =>
      obtain ⟨u, hu⟩ := Value.isStrOf_shape (show Value.isStrOf y (.str x t) = true from h)
      injection hu with hx
      subst hx
      cases v <;> rfl

noncomputable def kt : Ky → D → Bool
  | .inl x, .str y => decide (y = x)
  | .inr i, .int j => decide (j = i)
  | _, _ => false
noncomputable def kget (k : Ky) : List (D × D) → Option D
  | [] => none
  | (e, d) :: r => if kt k e = true then some d else kget k r
noncomputable def kput (k : Ky) (d : D) : List (D × D) → List (D × D)
  | [] => [(kd k, d)]
  | (e, x) :: r => if kt k e = true then (e, d) :: r else (e, x) :: kput k d r
noncomputable def kOf : D → Option Ky
  | .str x => some (.inl x)
  | .int i => some (.inr i)
  | _ => none
noncomputable def knod (l : List (D × D)) : Prop := (l.filterMap fun p => kOf p.1).Nodup

theorem Ent.inv {P : Params} {h : Heap} {e : DictEntry} {es : List DictEntry} {p : D × D} {l : List (D × D)} (i : Ent P h (e :: es) (p :: l)) : Is h e.val p.2 ∧ (∃ k, p.1 = kd k ∧ kis k e.key = true) ∧ Ent P h es l := by
  cases i with
  | str a b c r => exact ⟨c, ⟨.inl _, rfl, by rw [a]; simp [kis, Value.isStrOf]⟩, r⟩
  | int a b c r => exact ⟨c, ⟨.inr _, rfl, by rw [a]; simp [kis, Value.isInt]⟩, r⟩
theorem kt_kd (k j : Ky) : kt k (kd j) = decide (j = k) := by
  cases k <;> cases j <;> simp [kt, kd]
theorem kis_dec {k j : Ky} {v : Value} (h : kis j v = true) : kis k v = decide (j = k) := by
  have prog : Program := default
  by_cases e : j = k
  · subst e; simp [h]
  · simp only [e, decide_false]
    cases q : kis k v with
    | false => rfl
    | true =>
      exfalso; apply e
      cases j <;> cases k
      · rw [Value.isStrOf_inj v _ _ h q]
      · obtain ⟨t, rfl⟩ := Value.isStrOf_shape h; cases q
      · obtain ⟨t, rfl⟩ := Value.isInt_shape h; cases q
      · rw [Value.isInt_inj v _ _ h q]
theorem Ent.keysOf {prog : Program} {w : World} {h : Heap} : ∀ {es : List DictEntry} {l : List (D × D)}, Ent w.params h es l → ∀ e ∈ es, ∃ k, kis k e.key = true ∧ e.hash = mxHash w k
  | _, _, .nil => fun e q => by cases q
  | _, _, .str (s := x) a b c r => fun e q => by
    cases q with
    | head => exact ⟨.inl x, by rw [a]; simp [kis, Value.isStrOf], b⟩
    | tail _ q => exact r.keysOf (prog := prog) e q
  | _, _, .int (i := x) a b c r => fun e q => by
    cases q with
    | head => exact ⟨.inr x, by rw [a]; simp [kis, Value.isInt], b⟩
    | tail _ q => exact r.keysOf (prog := prog) e q
theorem Ent.find {P : Params} {h : Heap} {k : Ky} : ∀ {es : List DictEntry} {l : List (D × D)}, Ent P h es l →
    match kget k l with
    | some d => ∃ e, es.find? (fun e => kis k e.key) = some e ∧ Is h e.val d
    | none => es.find? (fun e => kis k e.key) = none
  | [], [], _ => rfl
  | e :: es, (c, d) :: l, i => by
    obtain ⟨i1, ⟨j, e1, i2⟩, i3⟩ := i.inv
    simp only at e1 i1
    subst e1
    have ih := i3.find (k := k)
    unfold kget
    rw [kt_kd]
    by_cases q : j = k
    · simp only [q, decide_true, if_true]
      exact ⟨e, by rw [List.find?_cons, kis_dec i2]; simp [q], i1⟩
    · simp only [q, decide_false, Bool.false_eq_true, if_false]
      rw [List.find?_cons, kis_dec i2]
      simp only [q, decide_false]
      exact ih

noncomputable def DctAt (G : Gd) (H : Hp) (a : Addr) (l : List (D × D)) : Prop := ∀ B h, TopOk G B → Sat G B H h → (a == sysModules) = false ∧ ∃ (o : Obj) (es : List DictEntry) (n : Nat), h.get? a = some o ∧ o.ExactDict ∧ o.data = .dict es.toArray n ∧ Ent G.w.params h es l
noncomputable def LstAt (G : Gd) (H : Hp) (a : Addr) (l : List D) : Prop := ∀ B h, TopOk G B → Sat G B H h → ∃ vs : List Value, h.PlainList a vs.toArray ∧ IsL h vs l

section
variable {G : Gd} {n : Nat} {env : Env} {m : Loc} {H : Hp} {Q : D → Hp → Prop}
theorem LstAt.own {a l} (h : H a = some (.lst l)) : LstAt G H a l := fun B h' T S => (S.own _ _ h).2
theorem DctAt.own {a l} (h : H a = some (.dct l)) : DctAt G H a l := fun B h' T S => ⟨S.off _ _ h, (S.own _ _ h).2⟩
theorem Ent.mapOf {P : Program} {h : Heap} {a : Addr} {o : Obj} {es : List DictEntry} {k : Nat} {l : List (D × D)} (w : World) (h1 : h.get? a = some o) (h2 : o.ExactDict) (h3 : o.data = .dict es.toArray k) (i : Ent w.params h es l) :
    h.MapOf (mx P w) a (fun k => findBy kis es.toArray k) := ⟨o, es.toArray, k, h1, h2, h3, fun e he => i.keysOf (prog := P) e (by simpa using he), fun _ => rfl⟩
theorem Ent.findBy {P : Params} {h : Heap} {k : Ky} {es : List DictEntry} {l : List (D × D)} (i : Ent P h es l) :
    match kget k l with
    | some d => ∃ v, findBy kis es.toArray k = some v ∧ Is h v d
    | none => PySem.findBy kis es.toArray k = none := by
  have z := i.find (k := k)
  unfold PySem.findBy
  cases q : kget k l with
  | some d =>
    rw [q] at z
    obtain ⟨e, h1, h2⟩ := z
    exact ⟨e.val, by rw [List.find?_toArray, h1]; rfl, h2⟩
  | none =>
    rw [q] at z
    show Option.map _ _ = _
    rw [List.find?_toArray, z]; rfl

theorem Cmp.inD {a l k} (h : DctAt G H a l) (q : Q (.bool (kget k l).isSome) H) : Cmp G n H .In (kd k) (.ref a) Q := fun s v w i j B A T O S => by
  (first | (replace j := j.inv; obtain rfl := j) | (replace j := j.inv; obtain ⟨_, rfl⟩ := j) | cases j)
  obtain ⟨h0, o, es, c, h1, h2, h3, h4⟩ := h _ _ T S
  refine wpAny_in_of (knd := mx G.prog G.w) (is_kis i) h0 (h4.mapOf _ h1 h2 h3) ⟨_, _, ?_, S, .tok, q⟩
  have z := h4.findBy (k := k)
  dsimp only
  cases e : kget k l with
  | some d => rw [e] at z; obtain ⟨v, e1, e2⟩ := z; rw [e1]; exact .bool _
  | none => rw [e] at z; rw [z]; exact .bool _
theorem Cmp.ninD {a l k} (h : DctAt G H a l) (q : Q (.bool (!(kget k l).isSome)) H) : Cmp G n H .NotIn (kd k) (.ref a) Q := fun s v w i j B A T O S => by
  (first | (replace j := j.inv; obtain rfl := j) | (replace j := j.inv; obtain ⟨_, rfl⟩ := j) | cases j)
  obtain ⟨h0, o, es, c, h1, h2, h3, h4⟩ := h _ _ T S
  refine wpAny_notIn_of (knd := mx G.prog G.w) (is_kis i) h0 (h4.mapOf _ h1 h2 h3) ⟨_, _, ?_, S, .tok, q⟩
  have z := h4.findBy (k := k)
  dsimp only
  cases e : kget k l with
  | some d => rw [e] at z; obtain ⟨v, e1, e2⟩ := z; rw [e1]; exact .bool _
  | none => rw [e] at z; rw [z]; exact .bool _
theorem Item.dct {a l k d} (h : DctAt G H a l) (hd : kget k l = some d) (q : Q d H) : Item G n H (.ref a) (kd k) Q := fun value slice s v w i j B A T O S => by
  (first | (replace i := i.inv; obtain rfl := i) | (replace i := i.inv; obtain ⟨_, rfl⟩ := i) | cases i)
  obtain ⟨h0, o, es, c, h1, h2, h3, h4⟩ := h _ _ T S
  have z := h4.findBy (k := k)
  rw [hd] at z
  obtain ⟨v, e1, e2⟩ := z
  obtain ⟨ops, e⟩ := subscripted_false slice (.ref a) w
  have M := h4.mapOf (P := G.prog) G.w h1 h2 h3
  exact tail_any M.typeIs slot_dict_getitem.lookup (wpAny_getItem_of (knd := mx G.prog G.w) (is_kis j) M e1 ⟨_, _, e2, S, .tok, q⟩) e
theorem Cal.dget {a l k} (h : DctAt G H a l) (q : Q ((kget k l).getD .none) H) : Cal G n H (.builtin "dict.get") [.ref a, kd k] Q := fun s vs i B A T O S => by
  replace i := i.inv; obtain ⟨_, _, rfl, i, j⟩ := i
  replace j := j.inv; obtain ⟨_, _, rfl, j, k'⟩ := j
  (first | (replace i := i.inv; obtain rfl := i) | (replace i := i.inv; obtain ⟨_, rfl⟩ := i) | cases i); (first | (replace k' := k'.inv; obtain rfl := k') | (replace k' := k'.inv; obtain ⟨_, rfl⟩ := k') | cases k')
  obtain ⟨h0, o, es, c, h1, h2, h3, h4⟩ := h _ _ T S
  have M := h4.mapOf (P := G.prog) G.w h1 h2 h3
  refine call_meetsIn PySem.F.slot_dict_get M.typeIs PySem.F.entry_dict_get (PySem.F.args_dict_get_2 _ _) (meets_dict_get (mx G.prog G.w) a (is_kis j) h0) ⟨_, M, _, _, ?_, S, .tok, q⟩
  have z := h4.findBy (k := k)
  dsimp only
  cases e : kget k l with
  | some d => rw [e] at z; obtain ⟨v, e1, e2⟩ := z; rw [e1]; exact e2
  | none => rw [e] at z; rw [z]; exact .none
theorem Cal.dget2 {a l k d} (h : DctAt G H a l) (q : Q ((kget k l).getD d) H) : Cal G n H (.builtin "dict.get") [.ref a, kd k, d] Q := fun s vs i B A T O S => by
  replace i := i.inv; obtain ⟨_, _, rfl, i, j⟩ := i
  replace j := j.inv; obtain ⟨_, _, rfl, j, k'⟩ := j
  cases k' with | cons k' k'' =>
  (first | (replace i := i.inv; obtain rfl := i) | (replace i := i.inv; obtain ⟨_, rfl⟩ := i) | cases i); (first | (replace k'' := k''.inv; obtain rfl := k'') | (replace k'' := k''.inv; obtain ⟨_, rfl⟩ := k'') | cases k'')
  obtain ⟨h0, o, es, c, h1, h2, h3, h4⟩ := h _ _ T S
  have M := h4.mapOf (P := G.prog) G.w h1 h2 h3
  refine call_meetsIn PySem.F.slot_dict_get M.typeIs PySem.F.entry_dict_get (PySem.F.args_dict_get_3 _ _ _) (meets_dict_get_default (mx G.prog G.w) a (is_kis j) h0 _) ⟨_, M, _, _, ?_, S, .tok, q⟩
  have z := h4.findBy (k := k)
  dsimp only
  cases e : kget k l with
  | some d => rw [e] at z; obtain ⟨v, e1, e2⟩ := z; rw [e1]; exact e2
  | none => rw [e] at z; rw [z]; exact k'
end

end
section
set_option tactic.hygienic false

inductive KvL (h : Heap) : List (Ky × Value) → List (D × D) → Prop
  | nil : KvL h [] []
  | cons {k : Ky} {v : Value} {d : D} {kvs l} : Is h v d → KvL h kvs l → KvL h ((k, v) :: kvs) ((kd k, d) :: l)
theorem Ent.kv {prog : Program} {w : World} {h : Heap} : ∀ {es : List DictEntry} {l : List (D × D)}, Ent w.params h es l → ∃ kvs, Pairs (mx prog w) es kvs ∧ KvL h kvs l
  | _, _, .nil => ⟨[], .nil, .nil⟩
  | _, _, .str (e := e) (s := x) a b c r => let ⟨kvs, p, q⟩ := r.kv (prog := prog); ⟨(.inl x, e.val) :: kvs, .cons (by show kis (.inl x) e.key = true; rw [a]; simp [kis, Value.isStrOf]) rfl p, .cons c q⟩
  | _, _, .int (e := e) (i := x) a b c r => let ⟨kvs, p, q⟩ := r.kv (prog := prog); ⟨(.inr x, e.val) :: kvs, .cons (by show kis (.inr x) e.key = true; rw [a]; simp [kis, Value.isInt]) rfl p, .cons c q⟩
theorem KvL.ent {prog : Program} {w : World} {h : Heap} : ∀ {es : List DictEntry} {kvs : List (Ky × Value)} {l : List (D × D)}, (∀ e ∈ es, ∃ k, (mx prog w).is k e.key = true ∧ e.hash = (mx prog w).hash k) → Pairs (mx prog w) es kvs → KvL h kvs l → Ent w.params h es l
  | _, _, _, hk, .nil, .nil => .nil
  | e :: es, (k, v) :: kvs, _, hk, .cons a b p, .cons c q => by
    have ih := KvL.ent (fun e he => hk e (.tail _ he)) p q
    obtain ⟨j, h1, h2⟩ := hk e (.head _)
    have e1 : j = k := (mx prog w).inj _ _ _ h1 a
    subst e1
    simp only at a b
    subst b
    cases j with
    | inl x => obtain ⟨t, e2⟩ := Value.isStrOf_shape (show Value.isStrOf x e.key = true from a); exact .str e2 h2 c ih
    | inr x => obtain ⟨t, e2⟩ := Value.isInt_shape (show Value.isInt x e.key = true from a); exact .int e2 h2 c ih
noncomputable def knodB : List (D × D) → Bool
  | [] => true
  | p :: r => (match kOf p.1 with | some k => !(r.any fun q => kt k q.1) | none => true) && knodB r
theorem kOf_kd (k : Ky) : kOf (kd k) = some k := by cases k <;> rfl
theorem KvL.any {h : Heap} {k : Ky} : ∀ {kvs : List (Ky × Value)} {l : List (D × D)}, KvL h kvs l → (kvs.any fun kv => decide (kv.1 = k)) = l.any fun q => kt k q.1
  | _, _, .nil => rfl
  | _, _, .cons a b => by simp only [List.any_cons, kt_kd, b.any]
theorem KvL.nodup {h : Heap} : ∀ {kvs : List (Ky × Value)} {l : List (D × D)}, KvL h kvs l → knodB l = true → (kvs.map (·.1)).Nodup
  | _, _, .nil, _ => by simp
  | _, _, .cons (k := k) a b, q => by
    unfold knodB at q
    rw [Bool.and_eq_true] at q
    simp only [kOf_kd] at q
    rw [List.map_cons, List.nodup_cons]
    refine ⟨fun z => ?_, b.nodup q.2⟩
    have e := b.any (k := k)
    rw [Bool.not_eq_true'] at q
    rw [q.1] at e
    obtain ⟨kv, h1, h2⟩ := List.mem_map.mp z
    have := List.any_eq_false.mp e kv h1
    simp [h2] at this
theorem KvL.mono {h h' : Heap} (kp : TupKeep h h') : ∀ {kvs : List (Ky × Value)} {l : List (D × D)}, KvL h kvs l → KvL h' kvs l
  | _, _, .nil => .nil
  | _, _, .cons a b => .cons (a.mono kp) (b.mono kp)
theorem KvL.snoc {h : Heap} {k : Ky} {v : Value} {d : D} (i : Is h v d) : ∀ {kvs : List (Ky × Value)} {l : List (D × D)}, KvL h kvs l → (l.any fun q => kt k q.1) = false → KvL h (kvs ++ [(k, v)]) (kput k d l)
  | _, _, .nil, _ => .cons i .nil
  | _, _, .cons (k := j) a b, q => by
    rw [List.any_cons, kt_kd, Bool.or_eq_false_iff] at q
    unfold kput
    simp only [kt_kd, q.1, Bool.false_eq_true, if_false]
    exact .cons a (b.snoc i q.2)
theorem map_none {kvs : List (Ky × Value)} {k : Ky} {v : Value} (h : (kvs.any fun kv => decide (kv.1 = k)) = false) : kvs.map (fun kv => if kv.1 = k then (kv.1, v) else kv) = kvs := by
  rw [List.any_eq_false] at h
  conv => rhs; rw [← List.map_id kvs]
  refine List.map_congr_left fun x hx => ?_
  have := h x hx
  simp only [decide_eq_true_eq] at this
  simp [this]
theorem KvL.repl {h : Heap} {k : Ky} {v : Value} {d : D} (i : Is h v d) : ∀ {kvs : List (Ky × Value)} {l : List (D × D)}, KvL h kvs l → knodB l = true → (l.any fun q => kt k q.1) = true → KvL h (kvs.map fun kv => if kv.1 = k then (kv.1, v) else kv) (kput k d l)
  | _, _, .nil, _, q => by cases q
  | _, _, .cons (k := j) (v := u) a b, z, q => by
    unfold knodB at z
    rw [Bool.and_eq_true] at z
    simp only [kOf_kd, Bool.not_eq_true'] at z
    rw [List.any_cons, kt_kd] at q
    unfold kput
    by_cases e : j = k
    · subst e
      simp only [kt_kd, decide_true, if_true, List.map_cons]
      rw [map_none (by rw [b.any]; exact z.1)]
      exact .cons i b
    · simp only [kt_kd, e, decide_false, Bool.false_eq_true, if_false, Bool.false_or, List.map_cons] at q ⊢
      exact .cons a (b.repl i z.2 q)
theorem KvL.stored {h : Heap} {k : Ky} {v : Value} {d : D} (i : Is h v d) {kvs : List (Ky × Value)} {l : List (D × D)} (b : KvL h kvs l) (z : knodB l = true) : KvL h (PySem.stored kvs k v) (kput k d l) := by
  unfold PySem.stored
  rw [b.any]
  cases e : l.any fun q => kt k q.1 with
  | true => exact b.repl i z e
  | false => exact b.snoc i e
theorem KvL.length {h : Heap} : ∀ {kvs : List (Ky × Value)} {l : List (D × D)}, KvL h kvs l → kvs.length = l.length
  | _, _, .nil => rfl
  | _, _, .cons _ b => by simp [b.length]

section
variable {G : Gd} {n : Nat} {env : Env} {m : Loc} {H : Hp} {Q : D → Hp → Prop}
theorem SetI.dct {a l k d} {QH : Hp → Prop} (h : H a = some (.dct l)) (z : knodB l = true) (q : QH (H.set a (.dct (kput k d l)))) (hz : l.length ≤ sizeLine := by decide) : SetI G n H (.ref a) (kd k) d QH := fun s v1 v2 v3 i j r B A T O S => by
  (first | (replace i := i.inv; obtain rfl := i) | (replace i := i.inv; obtain ⟨_, rfl⟩ := i) | cases i)
  obtain ⟨o, es, c, h1, h2, h3, h4⟩ := (S.own _ _ h).2
  obtain ⟨kvs, p, b⟩ := h4.kv (prog := G.prog)
  refine wpAny_setItem_pairs (knd := mx G.prog G.w) (kvs := kvs) (is_kis j) ⟨o, es.toArray, c, h1, h2, h3, fun e he => h4.keysOf (prog := G.prog) e (by simpa using he), by simpa using p, b.nodup z⟩ ?_ (by rw [b.length]; exact hz)
  rintro h' ⟨o', es', c', g1, g2, g3, g4, g5, g6⟩ hs
  have kp := S.tupBut h hs
  have S' := S.upd (x' := .dct (kput k d l)) h hs ⟨o', es'.toList, c', g1, g2, by simpa using g3, KvL.ent (fun e he => g4 e (by simpa using he)) g5 ((b.mono kp).stored (r.mono kp) z)⟩
  exact ⟨(), _, rfl, S', .mk' kp, q⟩

-- the displays of dicts
end

end
section
set_option tactic.hygienic false

section
variable {G : Gd} {n : Nat} {env : Env} {m : Loc} {H : Hp} {Q : Fl → Loc → Hp → Prop} {rest : List Stmt}
-- while
noncomputable def Whl (G : Gd) (n : Nat) (env : Env) (test : Expr) (body : List Stmt) : Nat → Loc → Hp → (Fl → Loc → Hp → Prop) → Prop
  | 0, _, _, _ => False
  | k + 1, m, H, Q => EvB G n env m H test fun b H1 => (b = true → Ex G n env m H1 body fun fl m2 H2 => match fl with
    | .next => Whl G n env test body k m2 H2 Q
    | .cont => Whl G n env test body k m2 H2 Q
    | .brk => Q .next m2 H2
    | .ret r => Q (.ret r) m2 H2) ∧ (b = false → Q .next m H1)
theorem Ex.while' {test : Expr} {body : List Stmt} {pos : Pos} (k : Nat) (h : Whl G n env test body k m H (Thn G n env rest Q)) : Ex G n env m H (.While test body [] pos :: rest) Q := Ex.cons fun s hL B A T O S => by
  refine wpAny_While (codeAny_mono (codeAny_whileLoop (R := fun r s' => ∃ f, r = .ok f ∧ Got IsF G B s (FS env.locals (Thn G n env rest Q)) f s')
    (fun k s' => ∃ m H, H env.locals = none ∧ Sat G B (H.set env.locals (.ns m)) s'.heap ∧ Step s s' ∧ Whl G n env test body k m H (Thn G n env rest Q)) ?_ k ⟨m, H, hL, S, .refl _, h⟩) ?_)
  · rintro k s1 ⟨m, H, hL, S, st, h⟩
    cases k with
    | zero => exact h.elim
    | succ k =>
      refine wpAny_mono (h s1 hL B A T O S) ?_ fun _ _ z => z.elim
      rintro b s2 ⟨_, _, rfl, S2, st2, H2, rfl, hL2, h2⟩
      cases b with
      | false => exact wpAny_execs_nil ⟨_, rfl, .next, _, .next, S2, st.trans st2, m, H2, rfl, hL2, h2.2 rfl⟩
      | true =>
        refine wpAny_mono (h2.1 rfl s2 hL2 B A T O S2) ?_ fun _ _ z => z.elim
        rintro f s3 ⟨fl, _, i3, S3, st3, m3, H3, rfl, hL3, h3⟩
        have st' := (st.trans st2).trans st3
        cases i3 with
        | next => exact ⟨k, Nat.lt_succ_self _, m3, H3, hL3, S3, st', h3⟩
        | cont => exact ⟨k, Nat.lt_succ_self _, m3, H3, hL3, S3, st', h3⟩
        | brk => exact ⟨_, rfl, .next, _, .next, S3, st', m3, H3, rfl, hL3, h3⟩
        | ret a => exact ⟨_, rfl, _, _, .ret a, S3, st', m3, H3, rfl, hL3, h3⟩
  · rintro r s3 ⟨f, rfl, fl, H', i', S', st', q⟩
    exact ⟨fl, H', i', S', st', q⟩
end

-- tuples as sources
section
variable {G : Gd} {H : Hp}
theorem letGo_tupleiter {prog : Program} {w : World} {A : Around} {E : Value → Shared → Prop} {s : Shared} {elts : List Expr} {x1} {pos : Pos} {I l T : Addr} {i : Nat} {Q : Unit → Shared → Prop} (hit : s.heap.IsTupleIter I l i) (hQ : Q () s) :
    wpAny (model prog w) A (letOwnedTupleGo (.Tuple elts x1 pos) (.ref I) (.ref T)) Q E s := by
  obtain ⟨o, ho, hc, hd⟩ := hit
  show wpAny _ _ (load I >>= _) _ _ _
  refine wpAny_bind (wpAny_load ho ?_)
  rw [hc, hd]
  exact wpAny_pure hQ
noncomputable def srcT (it : Addr) (ds : List D) : Src G :=
  Src.one it isTgt ds (fun k => titX ds k) (fun H => True) (fun _ _ => trivial)
    (by
      intro target k d H B A s ht hi hf hl T O S
      obtain ⟨o, h1, _, t, vs, h4, h5, h2, h3⟩ := raw_at S (Hp.set_self ..)
      obtain ⟨v, hv, iv⟩ := h5.get hi
      refine wpAny_pyNext_tuple_item (i := k) (items := vs.toArray) ⟨o, h1, h2, h3⟩ (tupOf h4) (by simpa using hv) fun h' hr hs => ⟨_, rfl, ?_⟩
      have kp := S.tupBut (Hp.set_self ..) hs
      have z := S.upd (x' := titX ds (k + 1)) (Hp.set_self ..) hs (by
        obtain ⟨o', a, b, c⟩ := hr
        have e : t = t := rfl
        exact ⟨o', a, by unfold imm; rw [c, b]; exact (by decide : (Value.type "tuple_iterator" == Value.type "range") = false), t, vs, kp.tup h4, h5.mono kp, b, c⟩)
      rw [Hp.set_set] at z
      have fin : Is h' v d ∧ Sat G B (H.set it (titX ds (k + 1))) h' ∧ Step s { s with heap := h' } := ⟨iv.mono kp, z, .hp kp⟩
      cases hn : isNm target with
      | true => rw [letGo_name hn]; exact wpAny_pure fin
      | false =>
        obtain ⟨elts, kk, pos, rfl⟩ := isTp_of ht hn
        cases iv with
        | ref => exact letGo_tupleiter hr fin
        | tup => exact letGo_tupleiter hr fin
        | rng => exact letGo_tupleiter hr fin
        | _ => exact wpAny_pure fin)
    (by
      intro k H B A s hk hf hl T O S
      obtain ⟨o, h1, _, t, vs, h4, h5, h2, h3⟩ := raw_at S (Hp.set_self ..)
      refine wpAny_pyNext_tuple_end O.handled (i := k) (items := vs.toArray) ⟨o, h1, h2, h3⟩ (tupOf h4) (by
        have := h5.length
        simp; one_sign) fun h' he => ?_
      obtain ⟨S', kp⟩ := S.dropBut hf he
      exact ⟨rfl, S', .hp kp⟩)
    (by
      intro k H B A s S
      obtain ⟨o, h1, _, t, vs, h4, h5, h2, h3⟩ := raw_at S (Hp.set_self ..)
      exact wpAny_pyIter_tupleiter (i := k) ⟨o, h1, h2, h3⟩ ⟨rfl, rfl⟩)
theorem Itr.tup {n : Nat} {ds : List D} : Itr G n H (.tup ds) isTgt H ds fun _ => True := by
  intro s v i B A T O S
  replace i := i.inv; obtain ⟨a, vs, rfl, t, i⟩ := i
  refine wpAny_pyIter_tuple (tupOf t) ?_
  have kp := push_keeps s.heap { cls := .type "tuple_iterator", data := .fields #[.ref a, .int 0 0] }
  have hf := S.fresh (Nat.le_refl _)
  refine ⟨srcT s.heap.objs.size ds, _, rfl, ?_, .hp (.keeps kp), rfl, rfl, rfl, hf, rfl⟩
  · exact S.new (x := titX ds 0) kp (Nat.le_refl _) ⟨_, Heap.get?_push_size _ rfl, rfl, a, vs, (TupKeep.keeps kp).tup t, i.mono (.keeps kp), rfl, rfl⟩
end

-- comprehensions
noncomputable def Tst (G : Gd) (n : Nat) (env : Env) (m : Loc) (H : Hp) (ifs : List Expr) (QB : Bool → Hp → Prop) : Prop := match ifs with
  | [] => QB true H
  | [c] => EvB G n env m H c QB
  | _ => False
noncomputable def Lc (G : Gd) (n : Nat) (env : Env) (target elt : Expr) (ifs : List Expr) (ok : Hp → Prop) : List D → Loc → Hp → List D → (List D → Hp → Prop) → Prop
  | [], m, H, acc, Q => ok H ∧ Q acc H
  | d :: ds, m, H, acc, Q => ok H ∧ Asg G n env m H target d fun m1 H1 => Tst G n env m1 H1 ifs fun b H2 =>
    (b = true → Ev G n env m1 H2 elt fun e H3 => Lc G n env target elt ifs ok ds m1 H3 (acc ++ [e]) Q) ∧ (b = false → Lc G n env target elt ifs ok ds m1 H2 acc Q)

section
variable {G : Gd} {n : Nat} {env : Env}
theorem compLoop_go {prog : Program} {w : World} {A : Around} {R : Result → Shared → Prop} {s : Shared} {elt target iter : Expr} {ifs : List Expr} {scope : Scope} {pos : Pos} {it acc : Value} {env : Env} (I : Nat → Shared → Prop)
    (turn : ∀ n s, I n s → wpAny (model prog w) A (pyNext it) (fun r s₁ => match r with
      | none => R (.ok .next) s₁
      | some v => wpAny (model prog w) A (letOwnedTupleGo target it v) (fun _ s₁ => wpAny (model prog w) A (assign target env v) (fun _ s₂ =>
          wpAny (model prog w) A (forIn ifs true fun c r => if r = true then do let ok ← isTrue c env (eval c env); pure (ForInStep.yield ok) else pure (ForInStep.yield r)) (fun ok s₃ =>
            if ok = true then wpAny (model prog w) A (eval elt env) (fun x s₄ =>
              wpAny (model prog w) A (call (.builtin "list.append") [acc, x]) (fun _ s₅ => ∃ m, m < n ∧ I m s₅) (fun _ _ => False) s₄) (fun _ _ => False) s₃
            else ∃ m, m < n ∧ I m s₃) (fun _ _ => False) s₂) (fun _ _ => False) s₁) (fun _ _ => False) s₁) (fun _ _ => False) s)
    (n : Nat) (h : I n s) :
    codeAny (model prog w) A (.compLoop (.ListComp elt [⟨target, iter, ifs, 0⟩] scope pos) 0 it acc env) R s := by
  refine codeAny_loop rfl I (fun n s hI => ?_) n h
  show wpAny _ A ((compTurn (.ListComp elt [⟨target, iter, ifs, 0⟩] scope pos) 0 it acc env).onRaise (fun x => do noteFrame x env; theTreesLotGoes x)) _ _ s
  refine wpAny_noted ?_
  rw [compTurn_list]
  refine wpAny_bind (wpAny_standAt (wpAny_bind (wpAny_mono (turn n s hI) (fun r s₁ h₁ => ?_) fun _ _ h' => h'.elim)))
  cases r with
  | none => exact wpAny_pure h₁
  | some v =>
    refine wpAny_bind (wpAny_mono h₁ (fun _ s₁ h₁ => ?_) fun _ _ h' => h'.elim)
    refine wpAny_bind (wpAny_mono h₁ (fun _ s₂ h₂ => wpAny_bind (wpAny_mono h₂ (fun ok s₃ h₃ => ?_) fun _ _ h' => h'.elim)) fun _ _ h' => h'.elim)
    cases ok with
    | false => exact wpAny_pure ⟨rfl, h₃⟩
    | true =>
      exact wpAny_bind (wpAny_bind (wpAny_mono h₃ (fun x s₄ h₄ => wpAny_bind (wpAny_mono h₄ (fun _ s₅ h₅ => wpAny_pure (wpAny_pure ⟨rfl, h₅⟩)) fun _ _ h' => h'.elim)) fun _ _ h' => h'.elim))

structure Cfg (H : Hp) (C L Da : Addr) : Prop where
  c : H C = none
  l : H L = none
  d : H Da = none
noncomputable abbrev full (S : Src G) (C L Da : Addr) (xL : X) (k : Nat) (mc : Loc) (acc : List D) (H : Hp) : Hp := (S.put k ((H.set C (.ns mc)).set L xL)).set Da (.lst acc)
noncomputable abbrev fr (S : Src G) (C L : Addr) (xL : X) (mc : Loc) (H : Hp) : Prop := S.fresh ((H.set C (.ns mc)).set L xL)

theorem fr3 {α β : Type} {R : Heap → α → β → Prop} {S : Src G} {C L Da : Addr} {xL : X} {H : Hp} {mc : Loc} {k : Nat} {acc : List D} {s : Shared} {t : Sem α} {Q : β → Loc → Hp → Prop}
    (h : At R G n (H.set C (.ns mc)) s t (FS C Q)) (g : Cfg H C L Da) (hCL : C ≠ L) (hDC : Da ≠ C) (hDL : Da ≠ L) (hf : fr S C L xL mc H) (hD : ∃ k' H', S.fresh H' ∧ (S.put k' H') Da = none) :
    At R G n (full S C L Da xL k mc acc H) s t fun d H' => ∃ m' H'', H' = full S C L Da xL k m' acc H'' ∧ Cfg H'' C L Da ∧ fr S C L xL m' H'' ∧ Q d m' H'' := by
  obtain ⟨k', H', hf', hD⟩ := hD
  have e : (S.put k ((H.set C (.ns mc)).set L xL)) Da = none := by
    rw [(S.comm (x := .none |> fun (_ : D) => .ns mc) hf hf' hD).2.2, Hp.set_ne _ _ hDL, Hp.set_ne _ _ hDC, g.d]
  have h1 := At.frame (L := L) (x := xL) (by rw [Hp.set_ne _ _ (Ne.symm hCL)]; exact g.l) h
  have h2 := At.frame (L := Da) (x := .lst acc) e (S.frame (k := k) h1 hf)
  refine h2.mono ?_
  rintro d _ ⟨_, rfl, e1, _, rfl, f1, _, rfl, e2, m', H'', rfl, e3, q⟩
  have e4 : (H''.set C (.ns m')).set L xL Da = none := by rw [← (S.comm (x := .ns mc) f1 hf' hD).2.2]; exact e1
  refine ⟨m', H'', rfl, ⟨e3, ?_, ?_⟩, f1, q⟩
  · rw [Hp.set_ne _ _ (Ne.symm hCL)] at e2; exact e2
  · rw [Hp.set_ne _ _ hDL, Hp.set_ne _ _ hDC] at e4; exact e4

theorem fr3q {α β : Type} {R : Heap → α → β → Prop} {S : Src G} {C L Da : Addr} {xL : X} {H : Hp} {mc : Loc} {k : Nat} {acc : List D} {s : Shared} {t : Sem α} {Q : β → Hp → Prop}
    (h : At R G n (H.set C (.ns mc)) s t (FQ C mc Q)) (g : Cfg H C L Da) (hCL : C ≠ L) (hDC : Da ≠ C) (hDL : Da ≠ L) (hf : fr S C L xL mc H) (hD : ∃ k' H', S.fresh H' ∧ (S.put k' H') Da = none) :
    At R G n (full S C L Da xL k mc acc H) s t fun d H' => ∃ H'', H' = full S C L Da xL k mc acc H'' ∧ Cfg H'' C L Da ∧ fr S C L xL mc H'' ∧ Q d H'' :=
  (fr3 (Q := fun b m' H' => m' = mc ∧ Q b H') (h.mono fun d _ ⟨H'', a, b, c⟩ => ⟨mc, H'', a, b, rfl, c⟩) g hCL hDC hDL hf hD).mono fun d _ ⟨m', H'', a, b, c, e, q⟩ => by subst e; exact ⟨H'', a, b, c, q⟩
inductive CpI (S : Src G) (n : Nat) (env : Env) (L Da : Addr) (xL : X) (target elt : Expr) (ifs : List Expr) (B : Heap) (s₀ : Shared) (QA : List D → Hp → Prop) (j : Nat) (s' : Shared) : Prop
  | mk (k : Nat) (mc : Loc) (H : Hp) (acc : List D) (hj : j = S.items.length - k) (g : Cfg H env.locals L Da) (f : fr S env.locals L xL mc H) (hS : Sat G B (full S env.locals L Da xL k mc acc H) s'.heap) (st : Step s₀ s') (hk : k ≤ S.items.length) (a : acc.length ≤ k) (q : Lc G n env target elt ifs S.ok (S.items.drop k) mc H acc QA)
inductive CpT (S : Src G) (n : Nat) (env : Env) (L Da : Addr) (xL : X) (target elt : Expr) (ifs : List Expr) (B : Heap) (s₀ : Shared) (QA : List D → Hp → Prop) (k : Nat) (m4 : Loc) (acc : List D) (b : Bool) (s5 : Shared) : Prop
  | mk (H5 : Hp) (hS : Sat G B (full S env.locals L Da xL (k + 1) m4 acc H5) s5.heap) (st : Step s₀ s5) (g : Cfg H5 env.locals L Da) (f : fr S env.locals L xL m4 H5) (q : b = true → Ev G n env m4 H5 elt fun e H3 => Lc G n env target elt ifs S.ok (S.items.drop (k + 1)) m4 H3 (acc ++ [e]) QA) (q' : b = false → Lc G n env target elt ifs S.ok (S.items.drop (k + 1)) m4 H5 acc QA)
theorem comp_run {C L Da : Addr} {xL : X} (S : Src G) {target elt iter : Expr} {ifs : List Expr} {scope : Scope} {pos : Pos} (hC : env.locals = C) (ht : S.tgt target = true) {B : Heap} {A : Around} {s₀ : Shared} (T : TopOk G B) (O : Ok A n) (hn : 1 ≤ n)
    (hCL : C ≠ L) (hDC : Da ≠ C) (hDL : Da ≠ L) (hD : ∃ k' H', S.fresh H' ∧ (S.put k' H') Da = none) (hlen : S.items.length ≤ sizeLine)
    {s : Shared} {k : Nat} {mc : Loc} {H : Hp} {acc : List D} {QA : List D → Hp → Prop} (g : Cfg H C L Da) (hf : fr S C L xL mc H) (hS : Sat G B (full S C L Da xL k mc acc H) s.heap) (st : Step s₀ s) (hk : k ≤ S.items.length) (ha : acc.length ≤ k)
    (h : Lc G n env target elt ifs S.ok (S.items.drop k) mc H acc QA) :
    codeAny (model G.prog G.w) A (.compLoop (.ListComp elt [⟨target, iter, ifs, 0⟩] scope pos) 0 (.ref S.it) (.ref Da) env) (fun r s' => r = .ok .next ∧ ∃ mc acc H, Cfg H C L Da ∧ Sat G B (((H.set C (.ns mc)).set L xL).set Da (.lst acc)) s'.heap ∧ Step s₀ s' ∧ QA acc H) s := by
  subst hC
  obtain ⟨k', H', hf', hD'⟩ := id hD
  refine compLoop_go (CpI S n env L Da xL target elt ifs B s₀ QA)
    ?_ (S.items.length - k) ⟨k, mc, H, acc, rfl, g, hf, hS, st, hk, ha, h⟩
  rintro j s1 ⟨k, mc, H, acc, rfl, g, hf, hS, st, hk, ha, h⟩
  have okX : S.ok H → S.ok (((H.set env.locals (.ns mc)).set L xL).set Da (.lst acc)) := fun o =>
    S.okSet (by rw [Hp.set_ne _ _ hDL, Hp.set_ne _ _ hDC]; exact g.d) (S.okSet (by rw [Hp.set_ne _ _ (Ne.symm hCL)]; exact g.l) (S.okSet g.c o))
  obtain ⟨f1, e1, _⟩ := S.comm (k := k) (x := .lst acc) hf hf' hD'
  by_cases hlt : k < S.items.length
  · have e : S.items.drop k = S.items[k] :: S.items.drop (k + 1) := List.drop_eq_getElem_cons hlt
    rw [e] at h
    obtain ⟨hok, h⟩ := h
    have hi : S.items[k]? = some S.items[k] := List.getElem?_eq_getElem hlt
    refine wpAny_mono (S.head ht hi f1 (okX hok) T (O.le hn) (by rw [e1]; exact hS)) ?_ fun _ _ z => z.elim
    rintro r s2 ⟨v, rfl, h2⟩
    refine wpAny_mono h2 ?_ fun _ _ z => z.elim
    rintro _ s3 ⟨i3, S3, st3⟩
    rw [(S.comm (k := k + 1) (x := .lst acc) hf hf' hD').2.1] at S3
    refine wpAny_mono (fr3 (h s3 v g.c i3) g hCL hDC hDL hf hD B A T O S3) ?_ fun _ _ z => z.elim
    rintro _ s4 ⟨_, _, _, S4, st4, m4, H4, rfl, g4, f4, h4⟩
    have tst : wpAny (model G.prog G.w) A (forIn ifs true fun c r => if r = true then do let ok ← isTrue c env (eval c env); pure (ForInStep.yield ok) else pure (ForInStep.yield r))
        (CpT S n env L Da xL target elt ifs B s4 QA k m4 acc) (fun _ _ => False) s4 := by
      cases ifs with
      | nil => exact wpAny_tests_nil ⟨H4, S4, .refl _, g4, f4, h4.1, h4.2⟩
      | cons c r =>
        cases r with
        | nil =>
          refine wpAny_tests_one (wpAny_mono (fr3q (h4 s4 g4.c) g4 hCL hDC hDL f4 hD B A T O S4) ?_ fun _ _ z => z.elim)
          rintro b s5 ⟨_, _, rfl, S5, st5, H5, rfl, g5, f5, h5⟩
          exact ⟨H5, S5, st5, g5, f5, h5.1, h5.2⟩
        | cons _ _ => exact h4.elim
    refine wpAny_mono tst ?_ fun _ _ z => z.elim
    rintro b s5 ⟨H5, S5, st5, g5, f5, h5, h5'⟩
    have stA : Step s₀ s5 := ((st.trans st3).trans st4).trans st5
    cases b with
    | false =>
      simp only [Bool.false_eq_true, if_false]
      exact ⟨_, by one_sign, k + 1, m4, H5, acc, rfl, g5, f5, S5, stA, by one_sign, by one_sign, h5' rfl⟩
    | true =>
      simp only [if_true]
      refine wpAny_mono (fr3q (h5 rfl s5 g5.c) g5 hCL hDC hDL f5 hD B A T O S5) ?_ fun _ _ z => z.elim
      rintro x s6 ⟨d, _, i6, S6, st6, H6, rfl, g6, f6, h6⟩
      obtain ⟨_, vs, t, i⟩ := S6.own Da _ (Hp.set_self ..)
      refine wpAny_list_append_plain t (fun h' hl hsb => ?_) (by rw [List.size_toArray, i.length]; one_sign)
      have kp := S6.tupBut (Hp.set_self ..) hsb
      have S7 := S6.upd (x' := .lst (acc ++ [d])) (Hp.set_self ..) hsb ⟨vs ++ [_], by rw [List.push_toArray] at hl; exact hl, (i.mono kp).append (.cons (i6.mono kp) .nil)⟩
      rw [Hp.set_set] at S7
      exact ⟨_, by one_sign, k + 1, m4, H6, _, rfl, g6, f6, S7, (stA.trans st6).trans (.hp kp), by one_sign, by simp; one_sign, h6⟩
  · obtain rfl : k = S.items.length := by one_sign
    rw [List.drop_length] at h
    refine wpAny_mono (S.done rfl f1 (okX h.1) T (O.le hn) (by rw [e1]; exact hS)) ?_ fun _ _ z => z.elim
    rintro r s2 ⟨rfl, S2, st2⟩
    exact ⟨rfl, mc, acc, H, g, S2, st.trans st2, h.2⟩
end

end
section
set_option tactic.hygienic false

section
variable {G : Gd} {n : Nat} {env : Env} {m : Loc} {H : Hp} {Q : D → Hp → Prop}
theorem comp_core {target elt iter : Expr} {ifs : List Expr} {scope : Scope} {cl : List (Str × Addr)} {pos : Pos} {xL : X} {B : Heap} {A : Around} {s₀ s : Shared} {QA : List D → Hp → Prop} {RR : Value → Addr → Result → Shared → Prop} {H₀ : Hp} (S : Src G) (ht : S.tgt target = true)
    (hcell : ∀ y ∈ scope.names, y.2 ≠ .cell) (hkind : scope.kind = .function) (T : TopOk G B) (O : Ok A n) (hn : 1 ≤ n) (hL : H₀ env.locals = none) (hf : S.fresh H₀) (hLp : (S.put 0 H₀) env.locals = none)
    (hS : Sat G B ((S.put 0 H₀).set env.locals xL) s.heap) (st : Step s₀ s) (hlen : S.items.length ≤ sizeLine)
    (h : ∀ C, H₀ C = none → C ≠ env.locals → Lc G n (compEnvC scope cl C env) target elt ifs S.ok S.items (fun _ => none) H₀ [] QA)
    (hR : ∀ Da C s' mc H acc, Cfg H C env.locals Da → C ≠ env.locals → Da ≠ C → Da ≠ env.locals → Sat G B (((H.set Da (.lst acc)).set env.locals xL).set C (.ns mc)) s'.heap → Step s₀ s' → QA acc H → RR (.ref Da) C (.ok .next) s') :
    wpAny (model G.prog G.w) A (newList []) (fun acc s₃ => wpAny (model G.prog G.w) A (newFunctionEnv scope env.globals cl [] env.qual none .none (some env)) (fun cenv s₄ =>
      codeAny (model G.prog G.w) A (.compStart (.ListComp elt [⟨target, iter, ifs, 0⟩] scope pos) 0 (.ref S.it) acc { cenv with scope := relabel scope env }) (RR acc cenv.locals) s₄) (fun _ _ => False) s₃) (fun _ _ => False) s := by
  have hS0 := hS
  obtain ⟨f0, e0, _⟩ := S.comm (k := 0) (x := xL) hf hf hLp
  rw [← e0] at hS
  refine wpAny_newObj_type (wpAny_newFunctionEnv hcell (by intro y hy; simp at hy) (fun h₁ hns₁ hsb₁ => ?_) hkind)
  have k1 := push_keeps s.heap { cls := .type "list", dict := none, data := .seq ([] : List Value).toArray }
  have S3 := hS.new (x := .lst []) k1 (Nat.le_refl _) ⟨[], ⟨_, Heap.get?_push_size _ rfl⟩, .nil⟩
  have Df := hS.fresh (Nat.le_refl _)
  revert hns₁ hsb₁
  generalize hH2 : s.heap.push { cls := .type "list", dict := none, data := .seq ([] : List Value).toArray } = H2 at k1 S3 ⊢
  intro hns₁ hsb₁
  have hC : H2.objs.size = s.heap.objs.size + 1 := by rw [← hH2, Heap.size_push]
  have k2 : ∀ b o, H2.get? b = some o → h₁.get? b = some o := fun b o e => hsb₁.extBut b o (Nat.ne_of_lt (Heap.lt_size e)) (Heap.get?_push_of_some _ e)
  have S4 := S3.new (x := .ns fun _ => none) k2 (Nat.le_refl _) ⟨_, hns₁, fun x d e => by cases e⟩
  have Cf : (S.put 0 (H₀.set env.locals xL)) H2.objs.size = none := hS.fresh (by rw [hC]; exact Nat.le_succ _)
  generalize hCe : H2.objs.size = C at S4 Cf hns₁ hsb₁ hC ⊢
  generalize hDe : s.heap.objs.size = Da at S3 S4 Df hC ⊢
  have hDC : Da ≠ C := by one_sign
  have hCL : C ≠ env.locals := fun z => by subst z; rw [e0, Hp.set_self] at Cf; cases Cf
  have hDL : Da ≠ env.locals := fun z => by subst z; rw [e0, Hp.set_self] at Df; cases Df
  obtain ⟨f1, e1, e1'⟩ := S.comm (k := 0) (x := .ns fun _ => none) f0 f0 Cf
  obtain ⟨_, _, e2'⟩ := S.comm (k := 0) (x := .ns fun _ => none) f0 f0 Df
  rw [Cf, Hp.set_ne _ _ hCL] at e1'
  rw [Df, Hp.set_ne _ _ hDL] at e2'
  have g : Cfg H₀ C env.locals Da := ⟨e1'.symm, hL, e2'.symm⟩
  rw [Hp.set_comm _ _ _ hDC, ← e1, Hp.set_comm _ _ _ (Ne.symm hCL)] at S4
  rw [Hp.set_comm _ _ _ (Ne.symm hCL)] at f1
  have kp : TupKeep s.heap h₁ := .trans (.keeps k1) (.keeps k2)
  have hD : ∃ k' H', S.fresh H' ∧ (S.put k' H') Da = none := ⟨0, _, f0, Df⟩
  have loop : ∀ s₃ : Shared, s₃.heap = h₁ → Step s s₃ → codeAny (model G.prog G.w) A (.compLoop (.ListComp elt [⟨target, iter, ifs, 0⟩] scope pos) 0 (.ref S.it) (.ref Da) (compEnvC scope cl C env)) (RR (.ref Da) C) s₃ := by
    rintro s₃ rfl st3
    refine codeAny_mono (comp_run (env := compEnvC scope cl C env) S rfl ht T O hn hCL hDC hDL hD hlen g f1 S4 (st.trans st3) (Nat.zero_le _) (Nat.le_refl _) (h C g.c hCL)) ?_
    rintro r s' ⟨rfl, mc, acc, H, g', S', st', q⟩
    refine hR Da C s' mc H acc g' hCL hDC hDL ?_ st' q
    rw [Hp.set_comm _ _ _ hDL, Hp.set_comm (H.set env.locals xL) _ _ hDC, Hp.set_comm H _ _ (Ne.symm hCL)]; exact S'
  have st3 : Step s { s with heap := h₁, toks := s.toks + ([] : List (Str × Value)).length } := .mk' kp
  obtain ⟨f2, e2, _⟩ := S.comm (k := 0) (x := .lst []) f1 f0 Df
  have S5 : Sat G B (S.put 0 (((H₀.set C (.ns fun _ => none)).set env.locals xL).set Da (.lst []))) h₁ := by rw [e2]; exact S4
  refine codeAny_compStart_list (loop _ rfl st3) (wpAny_mono (S.self f2 S5) ?_ fun _ _ z => z.elim)
  rintro _ _ ⟨rfl, rfl⟩
  exact loop _ rfl st3
theorem Ev.comp {target elt iter : Expr} {ifs : List Expr} {scope : Scope} {cl : List (Str × Addr)} {pos : Pos} (hn : 1 ≤ n)
    (h : Ev G n env m H iter fun d H1 => ∃ tgt H₀ ds ok, Itr G n H1 d tgt H₀ ds ok ∧ tgt target = true ∧ H₀ env.locals = none ∧ ds.length ≤ sizeLine ∧ ∀ C, H₀ C = none → C ≠ env.locals → Lc G n (compEnvC scope cl C env) target elt ifs ok ds (fun _ => none) H₀ [] fun acc H2 => ∀ a, H2 a = none → a ≠ env.locals → Q (.ref a) (H2.set a (.lst acc)))
    (hclos : closureFor scope env = pure cl) (hcell : ∀ y ∈ scope.names, y.2 ≠ .cell := by decide) (hnames : ∀ y ∈ scope.names, y.2 = .local → scope.names.lookup y.1 = some .local := by decide) (hkind : scope.kind = .function := by rfl)
    (hs : ∀ x, foldedSetIterable iter env x = pure x := by intro _; rfl) : Ev G n env m H (.ListComp elt [⟨target, iter, ifs, 0⟩] scope pos) Q := by
  intro s hL B A T O S
  rw [eval_ListComp]
  refine wpAny_comprehension_free (use := none) rfl hs hclos hkind hnames (wpAny_mono (h s hL B A T O S) ?_ fun _ _ z => z)
  rintro v s1 ⟨d, _, i, S1, st1, H1, rfl, hL1, tgt, H₀, ds, ok, it, ht, hL0, hz, lc⟩
  refine wpAny_mono ((it s1 v i).frame hL1 B A T O S1) ?_ fun _ _ z => z
  rintro _ s2 ⟨Sr, _, rfl, S2, st2, _, rfl, hL2, rfl, rfl, rfl, hf, rfl⟩
  refine comp_core (RR := fun acc C => compPost (model G.prog G.w) A (fun _ _ => False) none _ acc C) Sr ht hcell hkind T O hn hL0 hf hL2 S2 (st1.trans st2) hz lc ?_
  intro Da C s' mc H' acc g hCL hDC hDL S' st' q
  obtain ⟨_, mv, hns, _⟩ := S'.own C _ (Hp.set_self ..)
  refine ⟨mv, hns, fun h' hs' => ?_⟩
  have hCn : ((H'.set Da (.lst acc)).set env.locals (.ns m)) C = none := by rw [Hp.set_ne _ _ hCL, Hp.set_ne _ _ (Ne.symm hDC)]; exact g.c
  obtain ⟨S3, kp⟩ := S'.dropBut hCn hs'.extBut
  exact ⟨_, _, .ref Da, S3, st'.trans (.hp kp), _, rfl, by rw [Hp.set_ne _ _ (Ne.symm hDL)]; exact g.l, q Da g.d hDL⟩

theorem Ex.asgC {QF : Fl → Loc → Hp → Prop} {rest : List Stmt} {y : Str} {py : Pos} {target elt iter : Expr} {ifs : List Expr} {scope : Scope} {cl : List (Str × Addr)} {pos spos : Pos} (hn : 1 ≤ n)
    (h : Ev G n env m H iter fun d H1 => ∃ tgt H₀ ds ok, Itr G n H1 d tgt H₀ ds ok ∧ tgt target = true ∧ H₀ env.locals = none ∧ ds.length ≤ sizeLine ∧ ∀ C, H₀ C = none → C ≠ env.locals → Lc G n (compEnvC scope cl C env) target elt ifs ok ds (fun _ => none) H₀ [] fun acc H2 => ∀ a, H2 a = none → a ≠ env.locals →
      Asg G n env m (H2.set a (.lst acc)) (.Name y py) (.ref a) fun m3 H3 => Ex G n env m3 H3 rest QF)
    (hclos : closureFor scope env = pure cl) (hsw : swapsWith (.ListComp elt [⟨target, iter, ifs, 0⟩] scope pos) (some (.Name y py)) spos.line env = pure true := by rfl) (hcell : ∀ y ∈ scope.names, y.2 ≠ .cell := by decide) (hnames : ∀ y ∈ scope.names, y.2 = .local → scope.names.lookup y.1 = some .local := by decide) (hkind : scope.kind = .function := by rfl)
    (hs : ∀ x, foldedSetIterable iter env x = pure x := by intro _; rfl) : Ex G n env m H (.Assign [.Name y py] (.ListComp elt [⟨target, iter, ifs, 0⟩] scope pos) spos :: rest) QF := Ex.cons fun s hL B A T O S => by
  rw [exec_Assign_Name_used _ _ _ _ hsw]
  refine wpAny_bind (wpAny_standAt (wpAny_bind ?_))
  show wpAny _ A (do let _ ← comprehension (.ListComp elt [⟨target, iter, ifs, 0⟩] scope pos) scope env _ (newList []) false (eval iter env) (some (assign (.Name y py) env))) _ _ s
  refine wpAny_bind (wpAny_mono (wpAny_comprehension_free (use := some (assign (.Name y py) env)) (Q := fun _ s' => Got IsF G B s (FS env.locals (Thn G n env rest QF)) .next s') rfl hs hclos hkind hnames (wpAny_mono (h s hL B A T O S) ?_ fun _ _ z => z)) (fun _ s' hq => wpAny_pure (wpAny_pure hq)) fun _ _ e => e)
  rintro v s1 ⟨d, _, i, S1, st1, H1, rfl, hL1, tgt, H₀, ds, ok, it, ht, hL0, hz, lc⟩
  refine wpAny_mono ((it s1 v i).frame hL1 B A T O S1) ?_ fun _ _ z => z
  rintro _ s2 ⟨Sr, _, rfl, S2, st2, _, rfl, hL2, rfl, rfl, rfl, hf, rfl⟩
  refine comp_core (RR := fun acc C => compPost (model G.prog G.w) A (fun _ _ => False) (some (assign (.Name y py) env)) _ acc C) Sr ht hcell hkind T O hn hL0 hf hL2 S2 (st1.trans st2) hz lc ?_
  intro Da C s' mc H' acc g hCL hDC hDL S' st' q
  have hCn : ((H'.set Da (.lst acc)).set env.locals (.ns m)) C = none := by rw [Hp.set_ne _ _ hCL, Hp.set_ne _ _ (Ne.symm hDC)]; exact g.c
  have hLn : (H'.set Da (.lst acc)) env.locals = none := by rw [Hp.set_ne _ _ (Ne.symm hDL)]; exact g.l
  refine wpAny_mono (At.frame hCn (q Da g.d hDL s' (.ref Da) hLn (.ref Da)) B A T O S') ?_ fun _ _ z => z
  rintro _ s3 ⟨_, _, _, S3, st3, _, rfl, hC3, m3, H3, rfl, hL3, q3⟩
  obtain ⟨_, mv, hns, _⟩ := S3.own C _ (Hp.set_self ..)
  refine ⟨mv, hns, fun h' hs' => ?_⟩
  obtain ⟨S4, kp⟩ := S3.dropBut hC3 hs'.extBut
  exact ⟨_, _, .next, S4, (st'.trans st3).trans (.hp kp), m3, H3, rfl, hL3, q3⟩
end

end
section
set_option tactic.hygienic false

noncomputable def pickL {α : Type} (xs : List α) (lo hi st : Option Int) : List α :=
  (sliceRange (sliceBounds lo hi st xs.length).1 (sliceBounds lo hi st xs.length).2.1 (sliceBounds lo hi st xs.length).2.2).filterMap (xs[·]?)
theorem IsL.places {h : Heap} {vs : List Value} {l : List D} (i : IsL h vs l) : ∀ js : List Nat, IsL h (js.filterMap (vs[·]?)) (js.filterMap (l[·]?))
  | [] => .nil
  | j :: js => by
    have ih := i.places js
    cases e : l[j]? with
    | some d =>
      obtain ⟨v, h1, h2⟩ := i.get e
      simp only [List.filterMap_cons, e, h1]
      exact .cons h2 ih
    | none =>
      have h1 : vs[j]? = none := by rw [List.getElem?_eq_none_iff] at e ⊢; rw [i.length]; exact e
      simp only [List.filterMap_cons, e, h1]
      exact ih
theorem IsL.pick {h : Heap} {vs : List Value} {l : List D} (i : IsL h vs l) (lo hi st : Option Int) : IsL h (slicePick vs.toArray lo hi st).toList (pickL l lo hi st) := by
  have e : (slicePick vs.toArray lo hi st).toList = (sliceRange (sliceBounds lo hi st l.length).1 (sliceBounds lo hi st l.length).2.1 (sliceBounds lo hi st l.length).2.2).filterMap (vs[·]?) := by
    simp [slicePick, i.length]
  rw [e]; exact i.places _

inductive EvO (G : Gd) (n : Nat) (env : Env) (m : Loc) (H : Hp) : Option Expr → Option Int → Prop
  | no : EvO G n env m H none none
  | yes {e : Expr} {i : Int} : EvP G n env m H e (.int i) → EvO G n env m H (some e) (some i)

section
variable {G : Gd} {n : Nat} {env : Env} {m : Loc} {H : Hp} {Q : D → Hp → Prop} {QB : Bool → Hp → Prop}
theorem EvO.run {x : Option Expr} {i : Option Int} (h : EvO G n env m H x i) (hL : H env.locals = none) {B : Heap} {A : Around} {s : Shared} (T : TopOk G B) (O : Ok A n) (S : Sat G B (H.set env.locals (.ns m)) s.heap) :
    wpAny (model G.prog G.w) A (evalPart x env) (fun v s' => IsPart v i ∧ Sat G B (H.set env.locals (.ns m)) s'.heap ∧ Step s s') (fun _ _ => False) s := by
  cases h with
  | no => rw [evalPart_none]; exact wpAny_pure ⟨.none, S, .refl _⟩
  | yes h =>
    rw [evalPart_some]
    refine wpAny_mono (h.h s hL B A T O S) ?_ fun _ _ z => z
    rintro v s' ⟨d, _, i, S', st', _, rfl, hL', rfl, rfl⟩
    (first | (replace i := i.inv; obtain rfl := i) | (replace i := i.inv; obtain ⟨_, rfl⟩ := i) | cases i)
    exact ⟨.int _ _, S', st'⟩
theorem Ev.slc {value : Expr} {lo hi step : Option Expr} {p pos : Pos}
    (h : Ev G n env m H value fun d H1 => ∃ l xs a b c, d = .ref l ∧ LstAt G H1 l xs ∧ EvO G n env m H1 lo a ∧ EvO G n env m H1 hi b ∧ EvO G n env m H1 step c ∧ c ≠ some 0 ∧ xs.length ≤ sizeLine ∧ ∀ a', H1 a' = none → Q (.ref a') (H1.set a' (.lst (pickL xs a b c)))) :
    Ev G n env m H (.Subscript value (.Slice lo hi step p) pos) Q := by
  intro s hL B A T O S
  refine Subscript_ (wpAny_mono (h s hL B A T O S) ?_ fun _ _ z => z)
  rintro v1 s1 ⟨d1, _, i1, S1, st1, H1, rfl, hL1, l, xs, a, b, c, rfl, hl, ha, hb, hc, h0, hz, q⟩
  (first | (replace i1 := i1.inv; obtain rfl := i1) | (replace i1 := i1.inv; obtain ⟨_, rfl⟩ := i1) | cases i1)
  refine wpAny_Slice (wpAny_mono (ha.run hL1 T O S1) ?_ fun _ _ z => z)
  rintro va s2 ⟨pa, S2, st2⟩
  refine wpAny_mono (hb.run hL1 T O S2) ?_ fun _ _ z => z
  rintro vb s3 ⟨pb, S3, st3⟩
  refine wpAny_mono (hc.run hL1 T O S3) ?_ fun _ _ z => z
  rintro vc s4 ⟨pc, S4, st4⟩
  obtain ⟨vs, t, i⟩ := hl B _ T (S4.drop hL1)
  have k1 := push_keeps s4.heap { cls := .type "slice", data := .fields #[va, vb, vc] }
  have S5 := S4.keeps k1
  have k2 := push_keeps (s4.heap.push { cls := .type "slice", data := .fields #[va, vb, vc] }) { cls := .type "list", data := .seq (slicePick vs.toArray a b c) }
  have kp : TupKeep s4.heap _ := .trans (.keeps k1) (.keeps k2)
  have hf := S5.fresh (Nat.le_refl _)
  have S6 := S5.new (x := .lst (pickL xs a b c)) k2 (Nat.le_refl _) ⟨(slicePick vs.toArray a b c).toList, ⟨_, Heap.get?_push_size _ rfl⟩, (i.mono kp).pick a b c⟩
  obtain ⟨ops, e⟩ := subscripted_false (.Slice lo hi step p) (.ref l) (.ref s4.heap.objs.size)
  have t' := t.isList.push { cls := .type "slice", data := .fields #[va, vb, vc] }
  refine tail_any (Heap.IsList.typeIs (s := { s4 with heap := s4.heap.push { cls := .type "slice", data := .fields #[va, vb, vc] } }) t') list_getitem_lookup (wpAny_getItem_list_slice t' (Heap.IsSliceOf.new ..) pa pb pc h0 ?_ (by rw [List.size_toArray, i.length]; exact hz)) e
  have ne : (s4.heap.push { cls := .type "slice", data := .fields #[va, vb, vc] }).objs.size ≠ env.locals := fun z => by rw [z, Hp.set_self] at hf; cases hf
  rw [Hp.set_ne _ _ ne] at hf
  refine ⟨_, _, .ref _, S6, (((st1.trans st2).trans st3).trans st4).trans (.hp kp), _, Hp.set_comm _ _ _ (Ne.symm ne), ?_, q _ hf⟩
  rw [Hp.set_ne _ _ (Ne.symm ne)]; exact hL1

theorem Bin.addL {a b l r} (ha : LstAt G H a l) (hb : LstAt G H b r) (hz : l.length + r.length ≤ sizeLine) (q : ∀ c, H c = none → Q (.ref c) (H.set c (.lst (l ++ r)))) : Bin G n H .Add (.ref a) (.ref b) Q := fun s v w i j B A T O S => by
  (first | (replace i := i.inv; obtain rfl := i) | (replace i := i.inv; obtain ⟨_, rfl⟩ := i) | cases i); (first | (replace j := j.inv; obtain rfl := j) | (replace j := j.inv; obtain ⟨_, rfl⟩ := j) | cases j)
  obtain ⟨vs, ⟨k, t⟩, i⟩ := ha B _ T S
  obtain ⟨ws, ⟨k', t'⟩, j⟩ := hb B _ T S
  have kp := push_keeps s.heap { cls := .type "list", data := .seq (vs.toArray ++ ws.toArray) }
  refine concat_meets ⟨_, t, rfl⟩ ⟨_, t', rfl⟩ noFill_list_add seq_list_add PySem.F.slot_list_add PySem.F.entry_list_add (PySem.F.args_list_add_2 _ _) (list_addW a b vs.toArray ws.toArray k k' none none #[] #[] (by simpa [i.length, j.length] using hz)) ⟨t, t', ?_⟩
  exact ⟨_, _, .ref _, S.new (x := .lst (l ++ r)) kp (Nat.le_refl _) ⟨vs ++ ws, by rw [show (vs ++ ws).toArray = vs.toArray ++ ws.toArray by simp]; exact ⟨_, Heap.get?_push_size _ rfl⟩, (i.append j).mono (.keeps kp)⟩, .hp (.keeps kp), q _ (S.fresh (Nat.le_refl _))⟩

theorem IsL.rep {h : Heap} {vs : List Value} {l : List D} (i : IsL h vs l) : ∀ k : Nat, IsL h (List.replicate k vs).flatten (List.replicate k l).flatten
  | 0 => .nil
  | k + 1 => by simp only [List.replicate_succ, List.flatten_cons]; exact i.append (i.rep k)
theorem Bin.mulL {a l x} (ha : LstAt G H a l) (hlo : 0 ≤ x) (hhi : x < 2 ^ 20) (hz : l.length ≤ 8) (q : ∀ c, H c = none → Q (.ref c) (H.set c (.lst (List.replicate x.toNat l).flatten))) : Bin G n H .Mult (.ref a) (.int x) Q := fun s v w i j B A T O S => by
  (first | (replace i := i.inv; obtain rfl := i) | (replace i := i.inv; obtain ⟨_, rfl⟩ := i) | cases i); replace j := j.inv; obtain ⟨u, rfl⟩ := j
  obtain ⟨vs, ⟨k, t⟩, i⟩ := ha B _ T S
  have hl : vs.toArray.size = l.length := by rw [List.size_toArray, i.length]
  have hm : vs.toArray.size * x.toNat ≤ 8 * 2 ^ 20 := Nat.mul_le_mul (by one_sign) (by one_sign)
  have hq : ¬ Builtin.List.listTooLong (vs.toArray.size * x.toNat) = true := by
    generalize vs.toArray.size * x.toNat = e at hm ⊢
    simp [Builtin.List.listTooLong, sizeLine]; one_sign
  refine wpAny_binaryOp_repeat_ref (T := "list") (U := "int") (by decide) ⟨_, t, rfl⟩ (fun s' => typeIs_int s' x u) noFill_list_mul F.fills_int_mul F.slot_int_rmul repeat_list F.slot_int_index.lookup
    (call_meets F.slot_int_rmul (typeIs_int s x u) F.entry_int_rmul (F.args_int_rmul_2 _ _) (lm_int_rmul_list_any x u a vs.toArray k none #[])
      ⟨t, rfl, ⟨_, t, rfl⟩, call_meets F.slot_list_mul ⟨_, t, rfl⟩ F.entry_list_mul (F.args_list_mul_2 _ _)
        (lm_list_mul_any a vs.toArray k none #[] x u (by simp [Builtin.List.listFitsIndex]; one_sign) (by one_sign) hq) ⟨t, ?_⟩⟩)
  rw [listMul_foldl_if]
  have kp := push_keeps s.heap { cls := .type "list", data := .seq (List.replicate x.toNat vs).flatten.toArray }
  exact ⟨_, _, .ref _, S.new (x := .lst (List.replicate x.toNat l).flatten) kp (Nat.le_refl _) ⟨_, ⟨_, Heap.get?_push_size _ rfl⟩, (i.rep _).mono (.keeps kp)⟩, .hp (.keeps kp), q _ (S.fresh (Nat.le_refl _))⟩

theorem wpAny_setItem_plain {prog : Program} {w : World} {A : Around} {E : Value → Shared → Prop} {s : Shared} {l : Addr} {items : Array Value} {k : Int} {t : Tok} {v : Value} {Q : Unit → Shared → Prop} (hl : s.heap.PlainList l items) (h0 : 0 ≤ k) (hfit : k < 2 ^ 63) (hn : k < items.size)
    (hQ : ∀ h', h'.PlainList l (items.setIfInBounds k.toNat v) → Heap.SameBut l s.heap h' → Q () { s with heap := h' }) : wpAny (model prog w) A (setItem (.ref l) (.int k t) v) Q E s := by
  obtain ⟨c, ho⟩ := hl
  have hT : s.TypeIs (.ref l) "list" := ⟨_, ho, rfl⟩
  have hj : k.toNat < items.size := by one_sign
  unfold setItem
  refine wpAny_holding (wpAny_bind (wpAny_sequenceKey hT (by decide) (wpAny_bind (wpAny_callSpecial?_slot (name := Str.ofString "__setitem__") hT slot_list_setitem (wpAny_call_entry slot_list_setitem hT entry_list_setitem ?_ (args_list_setitem _ _ _))))))
  show wpAny _ _ (Builtin.List.listSubscript? (.int k t) >>= _) _ _ s
  refine wpAny_bind (wpAny_listSubscript_int (fitsIndex_of h0 hfit) ?_)
  obtain ⟨j, rfl⟩ := Int.eq_ofNat_of_zero_le h0
  show wpAny _ _ ((seqItemAt l j >>= fun r => pure (r.map (j, ·))) >>= _) _ _ s
  refine wpAny_bind (wpAny_bind (wpAny_seqItemAt ho rfl (wpAny_pure ?_)))
  rw [show items[j]? = some items[j] from Array.getElem?_eq_getElem hj]
  show wpAny _ _ (setSeqItemAt l j v >>= _) _ _ s
  have fin : Q () { s with heap := s.heap.update l (Obj.mapSeq (·.setIfInBounds j v)) } := hQ _ ⟨_, Heap.get?_update_self _ ho rfl⟩ (Heap.SameBut.update ..)
  refine wpAny_bind (wpAny_setSeqItemAt ho rfl ?_)
  first
    | exact wpAny_bind (wpAny_pure (wpAny_pure ⟨.none, rfl, wpAny_pure fin⟩))
    | exact wpAny_pure ⟨.none, rfl, wpAny_pure fin⟩
theorem SetI.lst {a l d} {k : Int} {QH : Hp → Prop} (h : H a = some (.lst l)) (h0 : 0 ≤ k) (h1 : k < l.length) (hz : l.length < 2 ^ 62) (q : QH (H.set a (.lst (l.set k.toNat d)))) : SetI G n H (.ref a) (.int k) d QH := fun s v1 v2 v3 i j r B A T O S => by
  (first | (replace i := i.inv; obtain rfl := i) | (replace i := i.inv; obtain ⟨_, rfl⟩ := i) | cases i); (first | (replace j := j.inv; obtain rfl := j) | (replace j := j.inv; obtain ⟨_, rfl⟩ := j) | cases j)
  obtain ⟨_, vs, t, i⟩ := S.own _ _ h
  refine wpAny_setItem_plain t h0 (by one_sign) (by rw [List.size_toArray, i.length]; exact h1) fun h' hl hs => ?_
  have kp := S.tupBut h hs
  refine ⟨(), _, rfl, S.upd (x' := .lst (l.set k.toNat d)) h hs ⟨vs.set k.toNat v3, ?_, (i.mono kp).set (r.mono kp)⟩, .hp kp, q⟩
  simpa using hl

theorem IsL.dropLast {h : Heap} {vs : List Value} {l : List D} (i : IsL h vs l) : IsL h vs.dropLast l.dropLast := by
  rw [List.dropLast_eq_take, List.dropLast_eq_take, i.length]; exact i.take _
theorem Cal.pop {a l d} (h : H a = some (.lst l)) (hd : l.getLast? = some d) (hz : l.length ≤ sizeLine) (q : Q d (H.set a (.lst l.dropLast))) : Cal G n H (.builtin "list.pop") [.ref a] Q := fun s vs i B A T O S => by
  replace i := i.inv; obtain ⟨_, _, rfl, i, j⟩ := i
  (first | (replace i := i.inv; obtain rfl := i) | (replace i := i.inv; obtain ⟨_, rfl⟩ := i) | cases i); (first | (replace j := j.inv; obtain rfl := j) | (replace j := j.inv; obtain ⟨_, rfl⟩ := j) | cases j)
  obtain ⟨_, vs, ⟨k, t⟩, i⟩ := S.own _ _ h
  rw [List.getLast?_eq_getElem?] at hd
  obtain ⟨v, h1, h2⟩ := i.get hd
  refine call_meets PySem.F.slot_list_pop ⟨_, t, rfl⟩ PySem.F.entry_list_pop (PySem.F.args_list_pop_1 _) (PySem.MeetsSeq.list_pop_last a vs.toArray k v (by rw [List.size_toArray, i.length]; simpa using h1) (by rw [List.size_toArray, i.length]; exact hz)) ⟨t, ?_⟩
  have hs : Heap.SameBut a s.heap (s.heap.update a (Obj.mapSeq fun xs => xs.eraseIdxIfInBounds (vs.toArray.size - 1))) := Heap.SameBut.update ..
  have kp := S.tupBut h hs
  have P : (s.heap.update a (Obj.mapSeq fun xs => xs.eraseIdxIfInBounds (vs.toArray.size - 1))).PlainList a (vs.toArray.eraseIdxIfInBounds (vs.toArray.size - 1)) := ⟨_, Heap.get?_update_self _ t rfl⟩
  have e : vs.toArray.eraseIdxIfInBounds (vs.toArray.size - 1) = vs.dropLast.toArray := by
    rw [← Array.toList_inj, Array.toList_eraseIdxIfInBounds, List.eraseIdx_eq_take_drop_succ]
    cases vs with
    | nil => rfl
    | cons x xs => simp [List.dropLast_eq_take]
  rw [e] at P
  exact ⟨_, _, h2.mono kp, S.upd (x' := .lst l.dropLast) h hs ⟨vs.dropLast, P, (i.mono kp).dropLast⟩, .hp kp, q⟩
end

end
section
set_option tactic.hygienic false

section
variable {G : Gd} {n : Nat} {env : Env} {m : Loc} {H : Hp} {Q : D → Hp → Prop} {QB : Bool → Hp → Prop} {B : Heap} {h h' : Heap} {a b : Addr} {x y : X}
theorem Item.lstN {a l d} {k : Int} (ha : LstAt G H a l) (h0 : k < 0) (h1 : -(l.length : Int) ≤ k) (hx : l[(k + l.length).toNat]? = some d) (hz : l.length < 2 ^ 62) (q : Q d H) : Item G n H (.ref a) (.int k) Q := fun value slice s v w i j B A T O S => by
  (first | (replace i := i.inv; obtain rfl := i) | (replace i := i.inv; obtain ⟨_, rfl⟩ := i) | cases i); replace j := j.inv; obtain ⟨u, rfl⟩ := j
  obtain ⟨vs, t, i⟩ := ha B _ T S
  obtain ⟨v, e1, e2⟩ := i.get hx
  obtain ⟨ops, e⟩ := subscripted_false slice (.ref a) (.int k u)
  have hl : vs.toArray.size = l.length := by rw [List.size_toArray, i.length]
  exact tail_any t.isList.typeIs slot_list_getitem.lookup (wpAny_getItem_list_neg t.isList h0 (by one_sign) (by one_sign) (by rw [hl]; simpa using e1) ⟨_, _, e2, S, .refl _, q⟩) e
theorem Cal.listL {a l} (ha : LstAt G H a l) (hz : l.length ≤ sizeLine) (q : ∀ c, H c = none → Q (.ref c) (H.set c (.lst l))) : Cal G n H (.type "list") [.ref a] Q := fun s vs i B A T O S => by
  replace i := i.inv; obtain ⟨_, _, rfl, i, j⟩ := i
  (first | (replace i := i.inv; obtain rfl := i) | (replace i := i.inv; obtain ⟨_, rfl⟩ := i) | cases i); (first | (replace j := j.inv; obtain rfl := j) | (replace j := j.inv; obtain ⟨_, rfl⟩ := j) | cases j)
  obtain ⟨vs, ⟨k, t⟩, i⟩ := ha B _ T S
  refine call_list_seq a (.inl rfl) t rfl rfl (fun h' c' hk hn => ?_) (by rw [List.size_toArray, i.length]; exact hz)
  exact ⟨_, _, .ref _, S.new (x := .lst l) hk (Nat.le_refl _) ⟨vs, ⟨c', hn⟩, i.mono (.keeps hk)⟩, .hp (.keeps hk), q _ (S.fresh (Nat.le_refl _))⟩
theorem Cal.intI {i} (q : Q (.int i) H) : Cal G n H (.type "int") [.int i] Q := fun s vs ii B A T O S => by
  replace ii := ii.inv; obtain ⟨_, _, rfl, i, j⟩ := ii
  (first | (replace j := j.inv; obtain rfl := j) | (replace j := j.inv; obtain ⟨_, rfl⟩ := j) | cases j)
  replace i := i.inv; obtain ⟨t, rfl⟩ := i; exact call_int_int ⟨_, _, .int _ _, S, .refl _, q⟩

noncomputable def isBool : D → Option Bool
  | .bool _ => some true
  | .int _ => some false
  | .str _ => some false
  | _ => none
theorem Cal.isB {d b} (hb : isBool d = some b) (q : Q (.bool b) H) : Cal G n H (.builtin "isinstance") [d, .ty "bool"] Q := fun s vs i B A T O S => by
  replace i := i.inv; obtain ⟨_, _, rfl, i, j⟩ := i
  replace j := j.inv; obtain ⟨_, _, rfl, j, k⟩ := j
  (first | (replace j := j.inv; obtain rfl := j) | (replace j := j.inv; obtain ⟨_, rfl⟩ := j) | cases j); (first | (replace k := k.inv; obtain rfl := k) | (replace k := k.inv; obtain ⟨_, rfl⟩ := k) | cases k)
  cases i <;> first | (cases hb; done) | skip
  · cases hb; exact PySem.IsiPair.bool_bool ⟨_, _, .bool _, S, .refl _, q⟩
  · cases hb; exact PySem.IsiPair.int_bool ⟨_, _, .bool _, S, .tok, q⟩
  · cases hb; exact PySem.IsiPair.str_bool ⟨_, _, .bool _, S, .tok, q⟩

-- two addresses written at random
theorem Sat.drop2 (S : Sat G B ((H.set a x).set b y) h) (ha : H a = none) (hb : H b = none) (he : ∀ c o, c ≠ b → c ≠ a → h.get? c = some o → h'.get? c = some o) : Sat G B H h' ∧ TupKeep h h' := by
  by_cases z : a = b
  · subst z
    rw [Hp.set_set] at S
    exact S.dropBut ha fun c o q e => he c o q q e
  have Sa := S.own a x (by rw [Hp.set_ne _ _ z, Hp.set_self])
  have Sb := S.own b y (Hp.set_self ..)
  obtain ⟨oa, a1, a2⟩ := Sa.2.root
  obtain ⟨ob, b1, b2⟩ := Sb.2.root
  have k : TupKeep h h' := fun c o e q => by
    by_cases z1 : c = b
    · subst z1; rw [b1] at e; cases e; rw [b2] at q; cases q
    · by_cases z2 : c = a
      · subst z2; rw [a1] at e; cases e; rw [a2] at q; cases q
      · exact he c o z1 z2 e
  have up : ∀ c u, H c = some u → c ≠ b ∧ c ≠ a ∧ ((H.set a x).set b y) c = some u := fun c u e => by
    have n1 : c ≠ b := fun z => by subst z; rw [hb] at e; cases e
    have n2 : c ≠ a := fun z => by subst z; rw [ha] at e; cases e
    exact ⟨n1, n2, by rw [Hp.set_ne _ _ n1, Hp.set_ne _ _ n2]; exact e⟩
  refine ⟨⟨fun c o e => he c o (fun z => by subst z; rw [Sb.1] at e; cases e) (fun z => by subst z; rw [Sa.1] at e; cases e) (S.keep c o e), fun c u e => ?_, S.low, fun c u e => S.off c u (up c u e).2.2⟩, k⟩
  obtain ⟨n1, n2, e'⟩ := up c u e
  exact ⟨(S.own c u e').1, (S.own c u e').2.move k fun o q => he c o n1 n2 q⟩
theorem Sat.add (S : Sat G B H h) (hB : B.get? a = none) (ho : (a == sysModules) = false) (r : Rep G.w.params h a x) : Sat G B (H.set a x) h :=
  ⟨S.keep, fun c u e => by
    by_cases z : c = a
    · subst z; rw [Hp.set_self] at e; cases e; exact ⟨hB, r⟩
    · rw [Hp.set_ne _ _ z] at e; exact S.own c u e, S.low, fun c u e => by
    by_cases z : c = a
    · subst z; exact ho
    · rw [Hp.set_ne _ _ z] at e; exact S.off c u e⟩
end

end
section
set_option tactic.hygienic false

section
variable {prog : Program} {w : World} {A : Around} {E : Value → Shared → Prop} {s : Shared}
theorem nextOf_tup_item {it t : Addr} {i : Nat} {items : Array Value} {x : Value} {Q : Value → Shared → Prop} (hit : s.heap.IsTupleIter it t i) (ht : s.heap.IsTuple t items) (hx : items[i]? = some x)
    (hQ : ∀ h', h'.IsTupleIter it t (i + 1) → Heap.SameBut it s.heap h' → Q x { s with heap := h' }) : wpAny (model prog w) A (Builtin.SmallTypes.nextOf (.ref it)) Q E s := by
  obtain ⟨o, ho, hc, hd⟩ := id hit
  obtain ⟨ol, hol, _, nl, hdl⟩ := ht
  unfold Builtin.SmallTypes.nextOf
  refine wpAny_bind (wpAny_callSpecial?_slot (name := Str.ofString "__next__") hit.typeIs F.slot_tuple_iterator_next (wpAny_call_entry F.slot_tuple_iterator_next hit.typeIs F.entry_tuple_iterator_next ?_ (F.args_tuple_iterator_next_1 _)))
  show wpAny _ _ (field (.ref it) 0 >>= _) _ _ s
  refine wpAny_bind (wpAny_field ho hd (x := .ref t) rfl ?_)
  show wpAny _ _ (if (Value.ref t == Value.none) = true then _ else _) _ _ s
  rw [if_neg (show ¬ ((Value.ref t == Value.none) = true) from Bool.false_ne_true)]
  show wpAny _ _ (field (.ref it) 1 >>= _) _ _ s
  refine wpAny_bind (wpAny_field ho hd (x := .int i 0) rfl ?_)
  show wpAny _ _ (seqItems? (.ref t) >>= _) _ _ s
  refine wpAny_bind (wpAny_seqItems hol hdl ?_)
  simp only [Int.toNat_natCast, hx]
  refine wpAny_bind (wpAny_setField ho hd (by simp) (wpAny_pure ⟨x, rfl, wpAny_pure (hQ _ ?_ (Heap.SameBut.update ..))⟩))
  exact ⟨_, Heap.get?_update_self _ ho (Obj.isFreed_of_fields (Obj.data_mapFields hd _)), (Obj.cls_mapFields ..).trans hc, by
    rw [Obj.data_mapFields hd]; simp [rawInt]⟩
theorem nextOf_tup_end {it t : Addr} {i : Nat} {items : Array Value} {Q : Value → Shared → Prop} (hh : A.handled = none) (hit : s.heap.IsTupleIter it t i) (ht : s.heap.IsTuple t items) (hx : items[i]? = none)
    (hE : ∀ h' e, Heap.ExtBut it s.heap h' → (∃ o, h'.get? e = some o ∧ o.cls = .type "StopIteration") → E (.ref e) { s with heap := h' }) : wpAny (model prog w) A (Builtin.SmallTypes.nextOf (.ref it)) Q E s := by
  obtain ⟨o, ho, hc, hd⟩ := id hit
  obtain ⟨ol, hol, _, nl, hdl⟩ := ht
  unfold Builtin.SmallTypes.nextOf
  refine wpAny_bind (wpAny_callSpecial?_slot (name := Str.ofString "__next__") hit.typeIs F.slot_tuple_iterator_next (wpAny_call_entry F.slot_tuple_iterator_next hit.typeIs F.entry_tuple_iterator_next ?_ (F.args_tuple_iterator_next_1 _)))
  show wpAny _ _ (field (.ref it) 0 >>= _) _ _ s
  refine wpAny_bind (wpAny_field ho hd (x := .ref t) rfl ?_)
  show wpAny _ _ (if (Value.ref t == Value.none) = true then _ else _) _ _ s
  rw [if_neg (show ¬ ((Value.ref t == Value.none) = true) from Bool.false_ne_true)]
  show wpAny _ _ (field (.ref it) 1 >>= _) _ _ s
  refine wpAny_bind (wpAny_field ho hd (x := .int i 0) rfl ?_)
  show wpAny _ _ (seqItems? (.ref t) >>= _) _ _ s
  refine wpAny_bind (wpAny_seqItems hol hdl ?_)
  simp only [Int.toNat_natCast, hx]
  refine wpAny_bind (wpAny_rule (wpAny_bind (wpAny_setField ho hd (by simp) ?_)))
  show wpAny _ _ (newExc (.type "StopIteration") [] >>= _) _ _ _
  refine wpAny_bind ?_
  simp only [newExc, newTuple]
  refine wpAny_bind (wpAny_newObj_type ?_ (by size_fits))
  refine wpAny_bind (m := firstArgMember _ _) (wpAny_of_eq (a := Value.none) (by first | rfl | (simp only [firstArgMember]; rfl)) ?_)
  refine wpAny_newObj_type ?_ (by size_fits)
  simp only [raiseNew]
  refine wpAny_bind (wpAny_handled ?_)
  first | rw [show A.in1.handled = none from hh] | rw [hh]
  refine wpAny_bind (wpAny_pure (wpAny_throw ?_))
  exact hE _ _ (((Heap.SameBut.update ..).extBut.push _).push _) ⟨_, Heap.get?_push_size _ rfl, rfl⟩
end
theorem Draws.tup {prog : Program} {w : World} {A : Around} (hh : A.handled = none) (it t : Addr) (hne : t ≠ it) (items : Array Value) :
    Draws prog w A it [it, t] items.size (fun i v => items[i]? = some v) (fun i h => h.IsTupleIter it t i ∧ h.IsTuple t items) where
  live := fun _ _ st => let ⟨o, ho, _⟩ := st.1; ⟨o, ho⟩
  frame := fun _ _ _ st hk => ⟨st.1.at fun o e => hk it (by simp) o e, st.2.at fun o e => hk t (by simp) o e⟩
  item := fun i s Q E hi st hQ => by
    refine nextOf_tup_item st.1 st.2 (x := items[i]) (by simp [hi]) fun h' hit' hs' => ?_
    exact hQ _ h' s.toks (by simp [hi]) ⟨hit', st.2.extBut hs'.extBut hne⟩ hs'
  done := fun s Q E st hE => nextOf_tup_end hh st.1 st.2 (by simp) hE

set_option tactic.hygienic true in
theorem meets_enum_tup (l : Addr) (items : Array Value) (n : Nat) (dct : Option Addr) (sl : Array (Option Value)) :
    Meets (Builtin.«enumerate.__new__» ⟨[.type "enumerate", .ref l], []⟩) (fun _ R s => s.heap.get? l = some { cls := .type "tuple", dict := dct, data := .seq items n, slots := sl } ∧
      R (.ok (.ret (.ref (s.heap.push { cls := .type "tuple_iterator", data := .fields #[.ref l, .int 0 0] }).objs.size)))
        { s with heap := (s.heap.push { cls := .type "tuple_iterator", data := .fields #[.ref l, .int 0 0] }).push { cls := .type "enumerate", data := .fields #[.none, .bool false, .ref s.heap.objs.size, rawInt 0, .none, .none] } }) :=
  .of_wp fun prog w A R s h => by
    obtain ⟨hp, g, d, tk, os⟩ := s; obtain ⟨hl, h⟩ := h
    have hsub := sub_enumerate
    have hL : Heap.IsTuple (Shared.heap ⟨hp, g, d, tk, os⟩) l items := ⟨_, hl, rfl, n, rfl⟩
    wp_walk using PySem.AutoSeq1.wpAny_loadPart' hl
    refine wpAny_stack_any fun st => wpAny_pure ?_
    split
    · rename_i c _ _ _ _ _
      cases (c == Value.type "enumerate")
      · wp_walk using PySem.AutoSeq1.wpAny_loadPart' hl, wpAny_pyIter_tuple hL
        exact ⟨_, rfl, h⟩
      · wp_walk using PySem.AutoSeq1.wpAny_loadPart' hl, wpAny_pyIter_tuple hL
        exact ⟨_, rfl, h⟩
    · wp_walk using PySem.AutoSeq1.wpAny_loadPart' hl, wpAny_pyIter_tuple hL
      exact ⟨_, rfl, h⟩

end
section
set_option tactic.hygienic false

noncomputable def enuL (ds : List D) : List D := ds.zipIdx.map fun p => .tup [.int (p.2 : Nat), p.1]
theorem enuL_len (ds : List D) : (enuL ds).length = ds.length := by simp [enuL]
theorem enuL_get {ds : List D} {k : Nat} {d : D} (h : ds[k]? = some d) : (enuL ds)[k]? = some (.tup [.int k, d]) := by
  simp [enuL, h]
section
variable {G : Gd} {n : Nat} {H : Hp} {Q : D → Hp → Prop}
noncomputable def putE (it e : Addr) (E : Nat → X) (k : Nat) (H : Hp) : Hp := (H.set it (E k)).set e (enuX it k)
noncomputable def Inn (G : Gd) (it e : Addr) (ds : List D) (E : Nat → X) (ok : Hp → Prop) : Prop := ∀ {H : Hp} {B : Heap} {A : Around} {s : Shared} {k : Nat}, ok H → H it = none → H e = none → it ≠ e → A.handled = none → Sat G B (putE it e E k H) s.heap →
  ∃ fp P St, Draws G.prog G.w A.in1 it fp ds.length P St ∧ it ∈ fp ∧ e ∉ fp ∧ St k s.heap ∧ (∀ x, P k x → ∃ d, ds[k]? = some d ∧ Is s.heap x d) ∧ (∀ h', St (k + 1) h' → TupKeep s.heap h' → Rep G.w.params h' it (E (k + 1)))
theorem enuX_rep {P : Params} {h : Heap} {e it : Addr} {k : Nat} {old : Value} (he : IsEnum h e it k old) : Rep P h e (enuX it k) := ⟨_, he, rfl, old, rfl⟩
set_option tactic.hygienic true in
noncomputable def srcE (it e : Addr) (ds : List D) (E : Nat → X) (ok : Hp → Prop) (hie : it ≠ e) (okSet : ∀ {H : Hp} {a : Addr} {x : X}, H a = none → ok H → ok (H.set a x)) (inn : Inn G it e ds E ok) : Src G where
  it := e
  tgt := isTp
  items := enuL ds
  put := putE it e E
  fresh := fun H => H it = none ∧ H e = none
  ok := ok
  frame := fun {α β R n H s t Q k} h hf => by
    have h2 := At.frame (L := e) (x := enuX it k) (by rw [Hp.set_ne _ _ (Ne.symm hie)]; exact hf.2) (At.frame (L := it) (x := E k) hf.1 h)
    refine h2.mono ?_
    rintro d _ ⟨_, rfl, e1, H'', rfl, e2, q⟩
    rw [Hp.set_ne _ _ (Ne.symm hie)] at e1
    exact ⟨H'', rfl, ⟨e2, e1⟩, q⟩
  comm := fun {k k' H H' a x} hf hf' hp => by
    have n1 : a ≠ e := fun z => by subst z; unfold putE at hp; rw [Hp.set_self] at hp; cases hp
    have n2 : a ≠ it := fun z => by subst z; unfold putE at hp; rw [Hp.set_ne _ _ n1, Hp.set_self] at hp; cases hp
    refine ⟨⟨by rw [Hp.set_ne _ _ (Ne.symm n2)]; exact hf.1, by rw [Hp.set_ne _ _ (Ne.symm n1)]; exact hf.2⟩, ?_, ?_⟩
    · unfold putE; rw [Hp.set_comm H _ _ n2, Hp.set_comm _ _ _ n1]
    · unfold putE; rw [Hp.set_ne _ _ n1, Hp.set_ne _ _ n2]
  self := fun {k H B A s} hf S => by
    obtain ⟨o, h1, _, old, h2⟩ := raw_at S (Hp.set_self ..)
    subst h2
    exact wpAny_pyIter_enum h1 ⟨rfl, rfl⟩
  sub := fun {k H a x} hf ha => by
    have n1 : a ≠ e := fun z => by subst z; rw [hf.2] at ha; cases ha
    have n2 : a ≠ it := fun z => by subst z; rw [hf.1] at ha; cases ha
    unfold putE; rw [Hp.set_ne _ _ n1, Hp.set_ne _ _ n2]; exact ha
  okSet := okSet
  head := fun {target k d H B A s} ht hi hf hok T O S => by
    obtain ⟨fp, P, St, Dr, m1, m2, st, hP, hR⟩ := inn hok hf.1 hf.2 hie O.handled S
    have hk : k < ds.length := by have := (List.getElem?_eq_some_iff.mp hi).1; rwa [enuL_len] at this
    obtain ⟨o, h1, _, old, h2⟩ := raw_at S (Hp.set_self ..)
    subst h2
    have Wk := WalksT.enumerateD Dr e (Ne.symm hie) m2 m1
    obtain ⟨elts, kk, pos, rfl⟩ := isTp_is ht
    refine Wk.item k s _ _ hk ⟨⟨old, h1⟩, st⟩ fun T vals h' tk hPt hle hTup hMid hkeep => ⟨_, rfl, ?_⟩
    refine Wk.go elts kk pos k T _ _ _ hMid fun h'' hSt hk'' => ?_
    have keep : ∀ c o, c ≠ e → c ≠ it → s.heap.get? c = some o → h''.get? c = some o := fun c o n1 n2 q => hk'' c o (by simp [n1, n2]) (hkeep c o (by simp [n1, n2]) q)
    obtain ⟨S1, kp⟩ := S.drop2 hf.1 hf.2 keep
    obtain ⟨⟨old', he'⟩, st'⟩ := hSt
    have bi := (S.own it (E k) (by unfold putE; rw [Hp.set_ne _ _ hie, Hp.set_self])).1
    have be := (S.own e _ (Hp.set_self ..)).1
    have S2 := (S1.add bi (S.off it _ (by unfold putE; rw [Hp.set_ne _ _ hie, Hp.set_self])) (hR h'' st' kp)).add be (S.off e _ (Hp.set_self ..)) (enuX_rep he')
    obtain ⟨t, x, hx, rfl⟩ := hPt
    obtain ⟨d', hd', ix⟩ := hP x hx
    rw [enuL_get hd'] at hi; cases hi
    obtain ⟨ot, t1, t2, c, t3⟩ := hTup
    have hT'' : h''.get? T = some ot := hk'' T ot (Wk.apart k T h' hMid) t1
    exact ⟨.tup (vs := [.int k t, x]) ⟨ot, hT'', t2, c, t3⟩ (.cons (.int _ _) (.cons (ix.mono kp) .nil)), S2, .mk' kp⟩
  done := fun {k H B A s} hk hf hok T O S => by
    obtain ⟨fp, P, St, Dr, m1, m2, st, hP, hR⟩ := inn hok hf.1 hf.2 hie O.handled S
    rw [enuL_len] at hk
    subst hk
    obtain ⟨o, h1, _, old, h2⟩ := raw_at S (Hp.set_self ..)
    subst h2
    have Wk := WalksT.enumerateD Dr e (Ne.symm hie) m2 m1
    refine Wk.done s _ _ ⟨⟨old, h1⟩, st⟩ fun h' tk hkeep => ?_
    obtain ⟨S1, kp⟩ := S.drop2 hf.1 hf.2 fun c o n1 n2 q => hkeep c o (by simp [n1, n2]) q
    exact ⟨rfl, S1, .mk' kp⟩

theorem inn_list {it e l : Addr} {ds : List D} : Inn G it e ds (fun k => litX l k) fun H => H l = some (.lst ds) := fun {H B A s k} hok h1 h2 hie hh S => by
  replace hok : H l = some (.lst ds) := hok
  have n1 : l ≠ it := fun z => by subst z; rw [h1] at hok; cases hok
  have n2 : l ≠ e := fun z => by subst z; rw [h2] at hok; cases hok
  obtain ⟨o, a1, _, a2, a3⟩ := raw_at S (a := it) (by unfold putE; rw [Hp.set_ne _ _ hie]; exact Hp.set_self ..)
  obtain ⟨_, vs, t, i⟩ := S.own l _ (by unfold putE; rw [Hp.set_ne _ _ n2, Hp.set_ne _ _ n1]; exact hok)
  have hn : vs.toArray.size = ds.length := by rw [List.size_toArray, i.length]
  refine ⟨[it, l], fun i v => vs.toArray[i]? = some v, fun i h => h.IsListIter it l i ∧ h.IsList l vs.toArray, hn ▸ Draws.list (A := A.in1) hh it l n1 vs.toArray, by simp, by simp [Ne.symm hie, Ne.symm n2], ⟨⟨o, a1, a2, a3⟩, t.isList⟩, fun x hx => ?_, fun h' st kp => ?_⟩
  · have hx' : vs[k]? = some x := by simpa using hx
    have hlt : k < ds.length := by rw [← i.length]; exact (List.getElem?_eq_some_iff.mp hx').1
    obtain ⟨v, b1, b2⟩ := i.get (List.getElem?_eq_getElem hlt)
    rw [hx'] at b1; cases b1
    exact ⟨_, List.getElem?_eq_getElem hlt, b2⟩
  · obtain ⟨⟨o', b1, b2, b3⟩, _⟩ := st
    exact ⟨o', b1, by unfold imm; rw [b3, b2]; exact (by decide : (Value.type "list_iterator" == Value.type "range") = false), b2, b3⟩
theorem inn_tup {it e : Addr} {ds : List D} : Inn G it e ds (fun k => titX ds k) fun _ => True := fun {H B A s k} _ h1 h2 hie hh S => by
  obtain ⟨o, a1, _, t, vs, a4, i, a2, a3⟩ := raw_at S (a := it) (by unfold putE; rw [Hp.set_ne _ _ hie]; exact Hp.set_self ..)
  obtain ⟨oe, e1, _, old, e2⟩ := raw_at S (a := e) (Hp.set_self ..)
  have n1 : t ≠ it := fun z => by subst z; obtain ⟨o', b1, b2, _⟩ := a4; rw [a1] at b1; cases b1; rw [a2] at b2; exact absurd b2 (by decide)
  have n2 : t ≠ e := fun z => by subst z; obtain ⟨o', b1, b2, _⟩ := a4; rw [e1] at b1; cases b1; rw [e2] at b2; exact absurd (show Value.type "enumerate" = .type "tuple" from b2) (by decide)
  have hn : vs.toArray.size = ds.length := by rw [List.size_toArray, i.length]
  refine ⟨[it, t], fun i v => vs.toArray[i]? = some v, fun i h => h.IsTupleIter it t i ∧ h.IsTuple t vs.toArray, hn ▸ Draws.tup (A := A.in1) hh it t n1 vs.toArray, by simp, by simp [Ne.symm hie, Ne.symm n2], ⟨⟨o, a1, a2, a3⟩, tupOf a4⟩, fun x hx => ?_, fun h' st kp => ?_⟩
  · have hx' : vs[k]? = some x := by simpa using hx
    have hlt : k < ds.length := by rw [← i.length]; exact (List.getElem?_eq_some_iff.mp hx').1
    obtain ⟨v, b1, b2⟩ := i.get (List.getElem?_eq_getElem hlt)
    rw [hx'] at b1; cases b1
    exact ⟨_, List.getElem?_eq_getElem hlt, b2⟩
  · obtain ⟨⟨o', b1, b2, b3⟩, _⟩ := st
    exact ⟨o', b1, by unfold imm; rw [b3, b2]; exact (by decide : (Value.type "tuple_iterator" == Value.type "range") = false), t, vs, kp.tup a4, i.mono kp, b2, b3⟩
theorem Cal.enumL {l ds} (hl : LstAt G H l ds) (q : ∀ it e, H it = none → H e = none → it ≠ e → Q (.ref e) (putE it e (fun k => litX l k) 0 H)) : Cal G n H (.type "enumerate") [.ref l] Q := fun s vs i B A T O S => by
  replace i := i.inv; obtain ⟨_, _, rfl, i, j⟩ := i
  (first | (replace i := i.inv; obtain rfl := i) | (replace i := i.inv; obtain ⟨_, rfl⟩ := i) | cases i); (first | (replace j := j.inv; obtain rfl := j) | (replace j := j.inv; obtain ⟨_, rfl⟩ := j) | cases j)
  obtain ⟨vs, t, i⟩ := hl B _ T S
  refine call_enumerate_list t.isList fun h' he hit hz hk => ?_
  have f1 := S.fresh (Nat.le_refl _)
  have f2 := S.fresh (Nat.le_succ s.heap.objs.size)
  obtain ⟨o, a1, a2, a3⟩ := hit
  have S1 := S.new (x := litX l 0) hk (Nat.le_refl _) ⟨o, a1, by unfold imm; rw [a3, a2]; exact (by decide : (Value.type "list_iterator" == Value.type "range") = false), a2, a3⟩
  have Sh := S.keeps hk
  have S2 := S1.add (a := s.heap.objs.size + 1) (x := enuX s.heap.objs.size 0) (S.baseFresh (Nat.le_succ _)) (beq_eq_false_iff_ne.mpr fun z => by
    obtain ⟨c, o, h1, h2⟩ := S.low
    have := Heap.lt_size (S.keep _ _ h2)
    have z' : s.heap.objs.size + 1 = sysModules := z
    have y : s.heap.objs.size + 1 < s.heap.objs.size := z' ▸ Nat.lt_trans h1 this
    exact absurd y (Nat.not_lt.mpr (Nat.le_succ _))) (enuX_rep he)
  exact ⟨_, _, .ref _, S2, .hp (.keeps hk), q _ _ f1 f2 (Nat.ne_of_lt (Nat.lt_succ_self _))⟩
theorem Cal.enumT {ds} (q : ∀ it e, H it = none → H e = none → it ≠ e → Q (.ref e) (putE it e (fun k => titX ds k) 0 H)) : Cal G n H (.type "enumerate") [.tup ds] Q := fun s vs i B A T O S => by
  replace i := i.inv; obtain ⟨_, _, rfl, i, j⟩ := i
  (first | (replace j := j.inv; obtain rfl := j) | (replace j := j.inv; obtain ⟨_, rfl⟩ := j) | cases j)
  replace i := i.inv; obtain ⟨l, vs, rfl, t, i⟩ := i
  have t0 := t
  obtain ⟨⟨c, dct, dt, sl⟩, hl, hc, n, hd⟩ := t
  replace hc : c = .type "tuple" := hc
  replace hd : dt = .seq vs.toArray n := hd
  subst hc hd
  refine callType_new F.called_enumerate (by decide) (F.typeCall_enumerate_1 _) (F.newCall_enumerate_1 _) (fun obj => F.args_object_init_2 obj _) F.entry_enumerate_new (meets_enum_tup l vs.toArray n dct sl) ⟨hl, ?_⟩
  have hz : (s.heap.push { cls := .type "tuple_iterator", data := .fields #[.ref l, .int 0 0] }).objs.size = s.heap.objs.size + 1 := Heap.size_push ..
  show _ ∧ _
  have k1 := push_keeps s.heap { cls := .type "tuple_iterator", data := .fields #[.ref l, .int 0 0] }
  have k2 := push_keeps (s.heap.push { cls := .type "tuple_iterator", data := .fields #[.ref l, .int 0 0] }) { cls := .type "enumerate", data := .fields #[.none, .bool false, .ref s.heap.objs.size, rawInt 0, .none, .none] }
  have S1 := S.new (x := titX ds 0) k1 (Nat.le_refl _) ⟨_, Heap.get?_push_size _ rfl, rfl, l, vs, (TupKeep.keeps k1).tup t0, i.mono (.keeps k1), rfl, rfl⟩
  have S2 := S1.new (x := enuX s.heap.objs.size 0) k2 (Nat.le_refl _) (enuX_rep (Heap.get?_push_size _ rfl))
  have f1 := S.fresh (Nat.le_refl _)
  rw [hz] at S2 ⊢
  have f2 := S.fresh (Nat.le_succ s.heap.objs.size)
  have g5 := Heap.get?_push_size (s.heap.push { cls := .type "tuple_iterator", data := .fields #[.ref l, .int 0 0] }) (o := { cls := .type "enumerate", data := .fields #[.none, .bool false, .ref s.heap.objs.size, rawInt 0, .none, .none] }) rfl
  rw [hz] at g5
  exact ⟨⟨_, g5, rfl⟩, _, _, .ref _, S2, .hp (.trans (.keeps k1) (.keeps k2)), q _ _ f1 f2 (Nat.ne_of_lt (Nat.lt_succ_self _))⟩
theorem Itr.enu {it e : Addr} {ds : List D} {E : Nat → X} {ok : Hp → Prop} (hie : it ≠ e) (h1 : H it = none) (h2 : H e = none) (okSet : ∀ {H : Hp} {a : Addr} {x : X}, H a = none → ok H → ok (H.set a x)) (inn : Inn G it e ds E ok) : Itr G n (putE it e E 0 H) (.ref e) isTp H (enuL ds) ok := by
  intro s v i B A T O S
  (first | (replace i := i.inv; obtain rfl := i) | (replace i := i.inv; obtain ⟨_, rfl⟩ := i) | cases i)
  obtain ⟨o, a, _, old, b⟩ := raw_at S (Hp.set_self ..)
  subst b
  exact wpAny_pyIter_enum a ⟨srcE it e ds E ok hie okSet inn, _, rfl, S, .refl _, rfl, rfl, rfl, ⟨h1, h2⟩, rfl⟩
theorem ok_list {l : Addr} {ds : List D} {H : Hp} {a : Addr} {x : X} (ha : H a = none) (h : H l = some (.lst ds)) : (H.set a x) l = some (.lst ds) := by
  rw [Hp.set_ne _ _ (fun z => by subst z; rw [ha] at h; cases h)]; exact h
theorem Itr.enL {it e l : Addr} {ds : List D} (hie : it ≠ e) (h1 : H it = none) (h2 : H e = none) : Itr G n (putE it e (fun k => litX l k) 0 H) (.ref e) isTp H (enuL ds) fun H => H l = some (.lst ds) := Itr.enu hie h1 h2 ok_list inn_list
theorem Itr.enT {it e : Addr} {ds : List D} (hie : it ≠ e) (h1 : H it = none) (h2 : H e = none) : Itr G n (putE it e (fun k => titX ds k) 0 H) (.ref e) isTp H (enuL ds) fun _ => True := Itr.enu hie h1 h2 (fun _ _ => trivial) inn_tup
end

end
section
set_option tactic.hygienic false

theorem stored_new {kvs : List (Ky × Value)} {k : Ky} {v : Value} (h : ∀ x ∈ kvs, x.1 ≠ k) : PySem.stored kvs k v = kvs ++ [(k, v)] := by
  unfold PySem.stored
  rw [if_neg]
  rw [Bool.not_eq_true, List.any_eq_false]
  intro x hx; simpa using h x hx
theorem merged_nodup : ∀ (kvs acc : List (Ky × Value)), ((acc ++ kvs).map (·.1)).Nodup → PySem.merged acc kvs = acc ++ kvs
  | [], acc, _ => by simp [PySem.merged]
  | (k, v) :: r, acc, h => by
    have hk : ∀ x ∈ acc, x.1 ≠ k := fun x hx e => by
      rw [List.map_append, List.nodup_append] at h
      exact h.2.2 x.1 (List.mem_map_of_mem hx) k (by simp) e
    have ih := merged_nodup r (acc ++ [(k, v)]) (by simpa using h)
    show PySem.merged (PySem.stored acc k v) r = _
    rw [stored_new hk, ih]; simp

section
variable {G : Gd} {n : Nat} {env : Env} {m : Loc} {H : Hp} {Q : D → Hp → Prop} {QD : List (D × D) → Hp → Prop}
noncomputable abbrev RD (G : Gd) (h : Heap) (vs : List (Value × Value)) (l : List (D × D)) : Prop := ∃ kvs, Carries (mx G.prog G.w) vs kvs ∧ KvL h kvs l
noncomputable def EvD (G : Gd) (n : Nat) (env : Env) (m : Loc) (H : Hp) (pos : Pos) (ks : List (Option Expr)) (vs : List Expr) (Q : List (D × D) → Hp → Prop) : Prop :=
  ∀ s, H env.locals = none → At (RD G) G n (H.set env.locals (.ns m)) s (evalPairs (pairTrees ks vs env pos)) (FQ env.locals m Q)
theorem EvD.nil {pos} (q : QD [] H) : EvD G n env m H pos [] [] QD := fun s hL B A T O S => evalPairs_nil ⟨_, _, ⟨[], trivial, .nil⟩, S, .refl _, H, rfl, hL, q⟩
theorem EvD.cons {k v ks vs pos} (ky : Ky) (h : Ev G n env m H k fun dk H1 => dk = kd ky ∧ Ev G n env m H1 v fun dv H2 => EvD G n env m H2 pos ks vs fun l H3 => QD ((kd ky, dv) :: l) H3) : EvD G n env m H pos (some k :: ks) (v :: vs) QD := fun s hL B A T O S => by
  refine evalPairs_cons (wpAny_mono (h s hL B A T O S) ?_ fun _ _ z => z)
  rintro v1 s1 ⟨_, _, i1, S1, st1, H1, rfl, hL1, rfl, h1⟩
  refine wpAny_bind (wpAny_mono (h1 s1 hL1 B A T O S1) ?_ fun _ _ z => z)
  rintro v2 s2 ⟨d2, _, i2, S2, st2, H2, rfl, hL2, h2⟩
  refine wpAny_bind (wpAny_standAt (wpAny_pure ?_))
  refine wpAny_mono (h2 s2 hL2 B A T O S2) ?_ fun _ _ z => z
  rintro vs s3 ⟨l, _, ⟨kvs, c, kv⟩, S3, st3, H3, rfl, hL3, q⟩
  exact ⟨_, _, ⟨(ky, v2) :: kvs, ⟨is_kis i1, rfl, c⟩, .cons (i2.mono st3.tup) kv⟩, S3, (st1.trans st2).trans st3, H3, rfl, hL3, q⟩
theorem Ev.dict0 {pos} (q : ∀ a, H a = none → Q (.ref a) (H.set a (.dct []))) : Ev G n env m H (.Dict [] [] pos) Q := fun s hL B A T O S => by
  refine wpAny_Dict_empty ?_
  have kp := push_keeps s.heap { cls := .type "dict", data := .dict #[] }
  have hf := S.fresh (Nat.le_refl _)
  have ne : s.heap.objs.size ≠ env.locals := fun z => by rw [z, Hp.set_self] at hf; cases hf
  rw [Hp.set_ne _ _ ne] at hf
  refine ⟨_, _, .ref _, S.new (x := .dct []) kp (Nat.le_refl _) ⟨_, [], 0, Heap.get?_push_size _ rfl, ⟨rfl, rfl, rfl⟩, rfl, .nil⟩, .hp (.keeps kp), H.set s.heap.objs.size (.dct []), Hp.set_comm _ _ _ (Ne.symm ne), ?_, q _ hf⟩
  rw [Hp.set_ne _ _ (Ne.symm ne)]; exact hL
theorem Ev.dict {keys values pos} (h : EvD G n env m H pos keys values fun l H1 => knodB l = true ∧ ∀ a, H1 a = none → Q (.ref a) (H1.set a (.dct l)))
    (hall : keys.all (·.isSome) = true := by rfl) (hl : keys.length = values.length := by rfl) (h0 : keys ≠ [] := by simp) (hlen : keys.length ≤ 15 := by decide) : Ev G n env m H (.Dict keys values pos) Q := fun s hL B A T O S => by
  refine wpAny_Dict_walk (knd := mx G.prog G.w) hall hl h0 hlen ?_
  have kp := push_keeps s.heap { cls := .type "dict", data := .dict #[] }
  have hf := S.fresh (Nat.le_refl _)
  have S1 := S.new (x := .dct []) kp (Nat.le_refl _) ⟨_, [], 0, Heap.get?_push_size _ rfl, ⟨rfl, rfl, rfl⟩, rfl, .nil⟩
  generalize s.heap.objs.size = a at S1 hf ⊢
  have ne : a ≠ env.locals := fun z => by rw [z, Hp.set_self] at hf; cases hf
  have st1 : Step s { s with heap := s.heap.push { cls := .type "dict", data := .dict #[] } } := .hp (.keeps kp)
  refine wpAny_mono (At.frame hf (h _ hL) B A T O S1) ?_ fun _ _ z => z
  rintro vs s2 ⟨l, _, ⟨kvs, c, kv⟩, S2, st2, _, rfl, ha, H2, rfl, hL2, z, q⟩
  obtain ⟨o, es, k, g1, g2, g3, g4⟩ := (S2.own a _ (Hp.set_self ..)).2
  cases g4
  refine ⟨kvs, c, ⟨o, #[], k, g1, g2, g3, fun e he => by simp at he, .nil, by simp⟩, fun h' hd hs => ?_⟩
  rw [merged_nodup kvs [] (by simpa using kv.nodup z), List.nil_append] at hd
  obtain ⟨o', es', c', f1, f2, f3, f4, f5, f6⟩ := hd
  have kp2 := S2.tupBut (Hp.set_self ..) hs
  have S3 := S2.upd (x' := .dct l) (Hp.set_self ..) hs ⟨o', es'.toList, c', f1, f2, by simpa using f3, KvL.ent (fun e he => f4 e (by simpa using he)) f5 (kv.mono kp2)⟩
  rw [Hp.set_set, Hp.set_comm _ _ _ (Ne.symm ne)] at S3
  refine ⟨_, _, .ref a, S3, (st1.trans st2).trans (.mk' kp2), _, rfl, by rw [Hp.set_ne _ _ (Ne.symm ne)]; exact hL2, q a ?_⟩
  rw [Hp.set_ne _ _ ne] at ha; exact ha
end

end
section
set_option tactic.hygienic false

theorem lookup_append' {α : Type} (x : Str) : ∀ (l r : List (Str × α)), (l ++ r).lookup x = (l.lookup x).or (r.lookup x)
  | [], r => by simp
  | (k, v) :: l, r => by
    rw [List.cons_append, List.lookup_cons, List.lookup_cons]
    cases x == k with
    | true => simp
    | false => exact lookup_append' x l r
theorem bindL_eq (kd : Str → Option NameKind) (x : Str) : ∀ (b : List (Str × Value)) (m : Str → Option Value), bindL kd b m x = if kd x = some .local then (b.reverse.lookup x).or (m x) else m x
  | [], m => by simp [bindL]
  | (k, v) :: r, m => by
    unfold bindL
    rw [bindL_eq kd x r, List.reverse_cons, lookup_append']
    by_cases h : kd x = some .local
    · simp only [h, if_true]
      by_cases hk : x = k
      · subst hk; simp [h, List.lookup_cons]
      · have e : (x == k) = false := by simpa using hk
        simp only [List.lookup_cons, e, List.lookup_nil, Option.or_none]
        split <;> simp [hk]
    · simp only [h, if_false]
      by_cases hk : x = k
      · subst hk; simp [h]
      · split <;> simp [hk]
theorem bindC_eq (kd : Str → Option NameKind) (x : Str) : ∀ (b : List (Str × Value)) (m : Str → Option Value), bindC kd b m x = if kd x = some .local then m x else (b.reverse.lookup x).or (m x)
  | [], m => by simp [bindC]
  | (k, v) :: r, m => by
    unfold bindC
    rw [bindC_eq kd x r, List.reverse_cons, lookup_append']
    by_cases h : kd x = some .local
    · simp only [h, if_true]
      by_cases hk : x = k
      · subst hk; simp [h]
      · split <;> simp [hk]
    · simp only [h, if_false]
      by_cases hk : x = k
      · subst hk; simp [h, List.lookup_cons]
      · have e : (x == k) = false := by simpa using hk
        simp only [List.lookup_cons, e, List.lookup_nil, Option.or_none]
        split <;> simp [hk]

noncomputable def locC (names : List (Str × NameKind)) (ks : List Str) (es : List D) : Loc := fun x => match names.lookup x with | some .local => locOf ks es x | _ => none
noncomputable def setCells (ks : List Str) (es : List D) (cs : List (Str × Addr)) (H : Hp) : Hp := cs.foldr (fun p H => H.set p.2 (.cel (locOf ks es p.1))) H

section
variable {G : Gd} {n : Nat} {H : Hp} {Q : D → Hp → Prop}
theorem Sat.cells {B : Heap} {h₀ h : Heap} {L : Addr} {ks : List Str} {es : List D} (S₀ : Sat G B H h₀) (hL : h₀.objs.size ≤ L) (k : ∀ b o, h₀.get? b = some o → h.get? b = some o) {cm : Str → Option Value} : ∀ (cs : List (Str × Addr)), (∀ p ∈ cs, L < p.2 ∧ h.IsCell p.2 (cm p.1) ∧ ∀ d, locOf ks es p.1 = some d → ∃ v, cm p.1 = some v ∧ Is h v d) → Sat G B (setCells ks es cs H) h
  | [], _ => S₀.keeps k
  | p :: r, hp => by
    have ih := Sat.cells S₀ hL k r fun q hq => hp q (.tail _ hq)
    obtain ⟨h1, h2, h3⟩ := hp p (.head _)
    refine ih.add (S₀.baseFresh (Nat.le_of_lt (Nat.lt_of_le_of_lt hL h1))) (beq_eq_false_iff_ne.mpr fun z => ?_) ⟨_, h2, h3⟩
    obtain ⟨c, o, l1, l2⟩ := S₀.low
    have := Heap.lt_size (S₀.keep _ _ l2)
    have y : p.2 < p.2 := by
      have a : p.2 < h₀.objs.size := by rw [z]; exact Nat.lt_trans l1 this
      exact Nat.lt_trans (Nat.lt_of_lt_of_le a hL) h1
    exact Nat.lt_irrefl _ y
set_option tactic.hygienic true in
theorem CalC.fnC {f : Addr} {name qual : Str} {params : Arguments} {body : List Stmt} {scope : Scope} {dV kV doc pm cdv ct oc : Value} {an od : Option Addr} {osl : Array (Option Value)} {ds : List D} (ks : List Str)
    (ho : G.K.lookup f = some ⟨oc, od, .func (fnOf name qual params body scope dV kV doc pm an cdv ct), osl⟩) (hcd : codeIn G.K cdv qual = true)
    (hbind : ∀ vs : List Value, vs.length = ds.length → bindArgs (fnOf name qual params body scope dV kV doc pm an cdv ct) ⟨vs, []⟩ = pure (ks.zip vs))
    (h : ∀ L, (∀ a, L ≤ a → H a = none) → Ex G n (envX qual scope L f cdv (cellsFrom (L + 1) scope.names [])) (locC scope.names ks ds) (setCells ks ds (cellsFrom (L + 1) scope.names []) H) body fun fl _ H' => Q (retOf fl) H')
    (hks : ∀ k ∈ ks, scope.names.lookup k = some .local ∨ scope.names.lookup k = some .cell := by decide)
    (hlk : ∀ L, ∀ p ∈ cellsFrom (L + 1) scope.names [], (cellsFrom (L + 1) scope.names []).lookup p.1 = some p.2 ∧ scope.names.lookup p.1 = some .cell)
    (hco : scope.isCoroutine = false := by rfl) (hgen : scope.isGenerator = false := by rfl) (hk : scope.kind = .function := by rfl) : CalC G (n + 1) H (.ref f) ds Q := by
  intro s vs i B A T O S
  have hroom : A.depth < recursionLimit := by have := O.depth; one_sign
  refine codeAny_call_cells (fd := fnOf name qual params body scope dV kV doc pm an cdv ct) (body := body) hroom (T.k.keeps S.keep _ _ ho) rfl (T.t.nolimit.keeps S.keep) (codeRec_of (T.k.keeps S.keep) hcd) rfl (hbind vs i.length) rfl
    (fun x hx => ?_) (fun s₁ X => ?_) hco hgen hk
  · rcases hks x.1 (List.of_mem_zip hx).1 with h1 | h1
    · exact .inl h1
    · exact .inr ⟨h1, cellsFrom_some _ _ _ (.inl h1)⟩
  · generalize hLe : s.heap.objs.size = L at X ⊢
    obtain ⟨⟨⟨h₁, tk, rfl⟩, hns, hkeep, hfr⟩, hcell, hap, hab⟩ := X
    have kp : TupKeep s.heap h₁ := .keeps hkeep
    have low : ∀ a, L ≤ a → H a = none := fun a ha => S.fresh (by rw [hLe]; exact ha)
    have S1 : Sat G B (setCells ks ds (cellsFrom (L + 1) scope.names []) H) h₁ := by
      refine Sat.cells S (Nat.le_of_eq hLe) hkeep (cm := fun x => (((ks.zip vs).reverse.lookup x).or none)) _ fun p hp => ?_
      have hc := hcell p.1 p.2 (hlk L p hp).1
      rw [bindC_eq, if_neg (by show ¬ (scope.names.lookup p.1 = _); rw [(hlk L p hp).2]; decide)] at hc
      exact ⟨hab p.1 p.2 hp, hc, fun d hd => let ⟨v, a, b⟩ := locOf_rep i hd; ⟨v, by rw [a]; rfl, b.mono kp⟩⟩
    have cL : (setCells ks ds (cellsFrom (L + 1) scope.names []) H) L = none := by
      have : ∀ cs : List (Str × Addr), (∀ p ∈ cs, L < p.2) → (setCells ks ds cs H) L = none := fun cs => by
        induction cs with
        | nil => exact fun _ => low L (Nat.le_refl _)
        | cons p r ih => exact fun hp => (Hp.set_ne _ _ (Nat.ne_of_lt (hp p (.head _)))).trans (ih fun q hq => hp q (.tail _ hq))
      exact this _ fun p hp => hab p.1 p.2 hp
    have S2 : Sat G B ((setCells ks ds (cellsFrom (L + 1) scope.names []) H).set L (.ns (locC scope.names ks ds))) h₁ := by
      refine S1.add (S.baseFresh (Nat.le_of_eq hLe)) (beq_eq_false_iff_ne.mpr fun z => ?_) ⟨_, hns, fun x d e => ?_⟩
      · obtain ⟨c, o, l1, l2⟩ := S.low
        have := Heap.lt_size (S.keep _ _ l2)
        have y : L < L := by
          have a : L < s.heap.objs.size := by rw [show L = sysModules from z]; exact Nat.lt_trans l1 this
          rw [hLe] at a; exact a
        exact Nat.lt_irrefl _ y
      · unfold locC at e
        split at e
        · rename_i hl
          obtain ⟨v, a, b⟩ := locOf_rep i e
          refine ⟨v, ?_, b.mono kp⟩
          rw [bindL_eq, a]; exact if_pos hl
        · cases e
    have st1 : Step s { s with heap := h₁, toks := tk } := .mk' kp
    refine wpAny_mono (h L low _ cL B _ T (O.deeper _) S2) ?_ fun _ _ z => z.elim
    rintro f' s' ⟨fl, _, i', S', st', m', H', rfl, hL', q⟩
    have fin : ∀ {v d}, Is s'.heap v d → Q d H' → ∃ v' d H', (Except.ok (Flow.ret v) : Result) = .ok (.ret v') ∧ Is s'.heap v' d ∧ Sat G B H' s'.heap ∧ Step s s' ∧ Q d H' := fun {v d} a b =>
      ⟨v, d, H', rfl, a, S'.drop hL', st1.trans st', b⟩
    cases i' with
    | next => exact fin .none q
    | brk => exact fin .none q
    | cont => exact fin .none q
    | ret a => exact fin a q
end

end
section
set_option tactic.hygienic false

-- values of the top
noncomputable def dOf : Value → D
  | .str s _ => .str s
  | .int i _ => .int i
  | .bool b => .bool b
  | _ => .none
noncomputable def isS : Value → Bool
  | .str _ _ => true
  | .int _ _ => true
  | .bool _ => true
  | .none => true
  | _ => false
theorem isL_of {h : Heap} : ∀ {vs : List Value}, vs.all isS = true → IsL h vs (vs.map dOf)
  | [], _ => .nil
  | v :: vs, e => by
    rw [List.all_cons, Bool.and_eq_true] at e
    refine .cons ?_ (isL_of e.2)
    cases v <;> first | (cases e.1; done) | constructor
inductive IsTopL (G : Gd) : List Value → List D → Prop
  | nil : IsTopL G [] []
  | cons {v : Value} {d : D} {vs : List Value} {ds : List D} : IsTop G v d → IsTopL G vs ds → IsTopL G (v :: vs) (d :: ds)
section
variable {G : Gd} {n : Nat} {env : Env} {m : Loc} {H : Hp} {Q : D → Hp → Prop}
theorem IsTopL.is {B : Heap} (T : TopOk G B) : ∀ {vs : List Value} {ds : List D}, IsTopL G vs ds → IsL B vs ds
  | _, _, .nil => .nil
  | _, _, .cons a b => .cons (a B T) (b.is T)
theorem IsTop.tup {a : Addr} {dd : Option Addr} {vs : List Value} {k : Nat} {sl : Array (Option Value)} (ho : G.K.lookup a = some ⟨.type "tuple", dd, .seq vs.toArray k, sl⟩) (hs : vs.all isS = true) : IsTop G (.ref a) (.tup (vs.map dOf)) :=
  fun B T => .tup ⟨_, T.k _ _ ho, rfl, _, rfl⟩ (isL_of hs)
theorem IsTop.tupL {a : Addr} {dd : Option Addr} {vs : List Value} {ds : List D} {k : Nat} {sl : Array (Option Value)} (ho : G.K.lookup a = some ⟨.type "tuple", dd, .seq vs.toArray k, sl⟩) (hs : IsTopL G vs ds) : IsTop G (.ref a) (.tup ds) :=
  fun B T => .tup ⟨_, T.k _ _ ho, rfl, _, rfl⟩ (hs.is T)
theorem IsTop.s {v : Value} (h : isS v = true) : IsTop G v (dOf v) := fun B T => by cases v <;> first | (cases h; done) | constructor
inductive EntTop (G : Gd) : List DictEntry → List (D × D) → Prop
  | nil : EntTop G [] []
  | str {x : Str} {t : Tok} {v : Value} {d : D} {es : List DictEntry} {l : List (D × D)} : IsTop G v d → EntTop G es l → EntTop G ({ key := .str x t, hash := PyData.keyHash G.w.params x, val := v } :: es) ((.str x, d) :: l)
theorem EntTop.ent {B : Heap} (T : TopOk G B) : ∀ {es : List DictEntry} {l : List (D × D)}, EntTop G es l → Ent G.w.params B es l
  | _, _, .nil => .nil
  | _, _, .str a b => .str rfl rfl (a B T) (b.ent T)
theorem DctAt.top {a : Addr} {es : List DictEntry} {k : Nat} {l : List (D × D)} (ho : G.K.lookup a = some ⟨.type "dict", none, .dict es.toArray k, #[]⟩) (he : EntTop G es l) (hs : (a == sysModules) = false) : DctAt G H a l :=
  fun B h T S => ⟨hs, _, es, k, S.keep _ _ (T.k _ _ ho), ⟨rfl, rfl, rfl⟩, rfl, (he.ent T).mono (.keeps S.keep)⟩
-- defaults
theorem BindsTo.dflt {s : Shared} {fd : FuncData} {vs ws : List Value} {ds es : List D} {ks : List Str} {T : Addr} {o : Obj} {items : List Value} {c : Nat} {k : Option (Array Value) → Sem (List (Str × Value))} (hd : fd.defaults = .ref T) (ho : s.heap.get? T = some o) (hs : o.data = .seq items.toArray c)
    (h₁ : bindArgs fd ⟨vs, []⟩ = seqItems? fd.defaults >>= k) (h₂ : k (some items.toArray) = pure (ks.zip ws)) (i : IsL s.heap ws es) : ∃ ws, BindsTo s fd ⟨vs, []⟩ (ks.zip ws) ∧ IsL s.heap ws es :=
  ⟨ws, BindsTo.of_defaults hd ho hs h₁ h₂, i⟩

noncomputable def Sub (H H' : Hp) : Prop := ∀ a x, H a = some x → H' a = some x
theorem Sub.refl (H : Hp) : Sub H H := fun _ _ e => e
theorem Sub.trans {H H' H'' : Hp} (a : Sub H H') (b : Sub H' H'') : Sub H H'' := fun c x e => b c x (a c x e)
theorem Sub.set {H : Hp} {a : Addr} {x : X} (h : H a = none) : Sub H (H.set a x) := fun c y e => by
  rw [Hp.set_ne _ _ (fun z => by subst z; rw [h] at e; cases e)]; exact e
theorem Sub.set' {H H' : Hp} {a : Addr} {x : X} (s : Sub H H') (h : H a = none) : Sub H (H'.set a x) := fun c y e => by
  rw [Hp.set_ne _ _ (fun z => by subst z; rw [h] at e; cases e)]; exact s c y e
theorem Sub.fresh {H H' : Hp} (s : Sub H H') {a : Addr} (h : H' a = none) : H a = none := by
  cases e : H a with
  | none => rfl
  | some x => rw [s a x e] at h; cases h
theorem Cal.forget {f : Value} {ds : List D} {Q' : D → Prop} (h : Cal G n H f ds fun d H' => Sub H H' ∧ Q' d) : Cal G n H f ds fun d H' => H' = H ∧ Q' d := fun s vs i B A T O S =>
  wpAny_mono (h s vs i B A T O S) (fun v s' ⟨d, H', a, b, c, q⟩ => ⟨d, H, a, b.forget q.1, c, rfl, q.2⟩) fun _ _ z => z
theorem CalP.of {f : Value} {ds : List D} {d : D} (h : Cal G n H f ds fun d' H' => Sub H H' ∧ d' = d) : CalP G n H f ds d := ⟨Cal.mono (Cal.forget h) fun _ _ ⟨a, b⟩ => ⟨b, a⟩⟩
theorem CalC.le {k : Nat} {f : Value} {ds : List D} (h : CalC G k H f ds Q) (q : k ≤ n) : CalC G n H f ds Q := fun s vs i B A T O S => h s vs i B A T (O.le q) S
theorem CalC.p {f : Value} {ds : List D} {d : D} (h : CalC G n H f ds fun d' H' => Sub H H' ∧ d' = d) : CalP G n H f ds d := CalP.of (CalC.cal h)
structure ExT (G : Gd) (n : Nat) (env : Env) (m : Loc) (H : Hp) (ss rest : List Stmt) (d : D) : Prop where
  h : Ex G n env m H ss (Thn G n env rest fun f _ H' => f = .ret d ∧ H' = H)
theorem ExT.nil {rest d} (h : ExP G n env m H rest d) : ExT G n env m H [] rest d := ⟨Ex.nil h.h⟩
theorem ExT.asg {x pos' value pos d d' ss rest} (h : EvP G n env m H value d) (h2 : ExT G n env (lset m x d) H ss rest d') (hs : swapsWith value (some (.Name x pos')) pos.line env = pure false := by rfl) (hk : env.scope.kind = .function := by rfl) (hx : env.kindOf x = some .local := by rfl) :
    ExT G n env m H (.Assign [.Name x pos'] value pos :: ss) rest d' := ⟨Ex.asg (h.to (Asg.name h2.h hk hx)) hs⟩
theorem ExT.iteR {test body pos x d1 d2 ss rest} (h1 : EvPB G n env m H test x) (h2 : x = true → ExP G n env m H body d1) (h3 : x = false → ExT G n env m H ss rest d2) : ExT G n env m H (.If test body [] pos :: ss) rest (bif x then d1 else d2) :=
  ⟨Ex.ite (h1.to ⟨fun e => by subst e; exact Ex.mono (h2 rfl).h fun f m' H' ⟨a, b⟩ => by subst a; exact ⟨rfl, b⟩, fun e => by subst e; exact Ex.nil (h3 rfl).h⟩)⟩
theorem ExP.iteF {test body pos x d1 d2 rest} (h1 : EvPB G n env m H test x) (h2 : x = true → ExT G n env m H body rest d1) (h3 : x = false → ExP G n env m H rest d2) : ExP G n env m H (.If test body [] pos :: rest) (bif x then d1 else d2) :=
  ⟨Ex.ite (h1.to ⟨fun e => by subst e; exact (h2 rfl).h, fun e => by subst e; exact Ex.nil (h3 rfl).h⟩)⟩
end

end
section
set_option tactic.hygienic false

-- loops by what holds between the turns
section
variable {G : Gd} {n : Nat} {env : Env} {Q : Fl → Loc → Hp → Prop}
theorem Whl.le {test : Expr} {body : List Stmt} : ∀ {j k : Nat} {m : Loc} {H : Hp}, j ≤ k → Whl G n env test body j m H Q → Whl G n env test body k m H Q
  | 0, _, _, _, _, h => h.elim
  | j + 1, 0, _, _, l, h => absurd l (by one_sign)
  | j + 1, k + 1, m, H, l, h => EvB.mono h fun b H1 ⟨a, c⟩ => ⟨fun e => Ex.mono (a e) fun f m2 H2 z => by
      cases f with
      | next => exact Whl.le (by one_sign) z
      | cont => exact Whl.le (by one_sign) z
      | brk => exact z
      | ret r => exact z, c⟩
theorem Whl.inv {test : Expr} {body : List Stmt} (I : Nat → Loc → Hp → Prop)
    (h : ∀ k m H, I k m H → EvB G n env m H test fun b H1 => (b = true → Ex G n env m H1 body fun fl m2 H2 => match fl with
      | .next => ∃ j, j < k ∧ I j m2 H2
      | .cont => ∃ j, j < k ∧ I j m2 H2
      | .brk => Q .next m2 H2
      | .ret r => Q (.ret r) m2 H2) ∧ (b = false → Q .next m H1)) : ∀ (k : Nat) {m : Loc} {H : Hp}, I k m H → Whl G n env test body (k + 1) m H Q := by
  intro k
  induction k using Nat.strongRecOn with
  | ind k ih =>
    intro m H i
    refine EvB.mono (h k m H i) fun b H1 ⟨a, c⟩ => ⟨fun e => Ex.mono (a e) fun f m2 H2 z => ?_, c⟩
    cases f with
    | next => obtain ⟨j, l, z⟩ := z; exact Whl.le (by one_sign) (ih j l z)
    | cont => obtain ⟨j, l, z⟩ := z; exact Whl.le (by one_sign) (ih j l z)
    | brk => exact z
    | ret r => exact z
theorem Lp.inv {target : Expr} {body : List Stmt} {ok : Hp → Prop} (I : Nat → Loc → Hp → Prop) : ∀ {ds : List D}
    (h : ∀ i d m H, ds[i]? = some d → I i m H → ok H ∧ Asg G n env m H target d fun m1 H1 => Ex G n env m1 H1 body fun fl m2 H2 => match fl with
      | .next => I (i + 1) m2 H2
      | .cont => I (i + 1) m2 H2
      | .brk => Q .next m2 H2
      | .ret r => Q (.ret r) m2 H2)
    (hd : ∀ m H, I ds.length m H → ok H ∧ Q .next m H) {m : Loc} {H : Hp}, I 0 m H → Lp G n env target body ok ds m H Q := by
  intro ds
  induction ds generalizing I with
  | nil => intro h hd m H i; exact hd m H i
  | cons d ds ih =>
    intro h hd m H i
    obtain ⟨a, b⟩ := h 0 d m H rfl i
    refine ⟨a, fun s v hL j => (b s v hL j).mono fun _ _ ⟨m', H'', x, y, c⟩ => ⟨m', H'', x, y, Ex.mono c fun f m2 H2 z => ?_⟩⟩
    have key : I 1 m2 H2 → Lp G n env target body ok ds m2 H2 Q := fun z => ih (fun i => I (i + 1)) (fun i d m H e j => h (i + 1) d m H (by simpa using e) j) (fun m H j => hd m H (by simpa using j)) z
    cases f with
    | next => exact key z
    | cont => exact key z
    | brk => exact z
    | ret r => exact z
theorem Lc.inv {target elt : Expr} {ifs : List Expr} {ok : Hp → Prop} {QL : List D → Hp → Prop} (I : Nat → Loc → Hp → List D → Prop) : ∀ {ds : List D}
    (h : ∀ i d m H acc, ds[i]? = some d → I i m H acc → ok H ∧ Asg G n env m H target d fun m1 H1 => Tst G n env m1 H1 ifs fun b H2 =>
      (b = true → Ev G n env m1 H2 elt fun e H3 => I (i + 1) m1 H3 (acc ++ [e])) ∧ (b = false → I (i + 1) m1 H2 acc))
    (hd : ∀ m H acc, I ds.length m H acc → ok H ∧ QL acc H) {m : Loc} {H : Hp} {acc : List D}, I 0 m H acc → Lc G n env target elt ifs ok ds m H acc QL := by
  intro ds
  induction ds generalizing I with
  | nil => intro h hd m H acc i; exact hd m H acc i
  | cons d ds ih =>
    intro h hd m H acc i
    obtain ⟨a, b⟩ := h 0 d m H acc rfl i
    refine ⟨a, fun s v hL j => (b s v hL j).mono fun _ _ ⟨m', H'', x, y, c⟩ => ⟨m', H'', x, y, ?_⟩⟩
    have key : ∀ {m2 H2 acc2}, I 1 m2 H2 acc2 → Lc G n env target elt ifs ok ds m2 H2 acc2 QL := fun z => ih (fun i => I (i + 1)) (fun i d m H acc e j => h (i + 1) d m H acc (by simpa using e) j) (fun m H acc j => hd m H acc (by simpa using j)) z
    cases ifs with
    | nil => exact ⟨fun e => Ev.mono (c.1 e) fun _ _ z => key z, fun e => key (c.2 e)⟩
    | cons t r =>
      cases r with
      | nil => exact EvB.mono c fun b' H2 z => ⟨fun e => Ev.mono (z.1 e) fun _ _ z => key z, fun e => key (z.2 e)⟩
      | cons _ _ => exact (show False from c).elim
end

-- reading locals and heaps
theorem lset_self {m : Loc} {k : Str} {d : D} : lset m k d k = some d := if_pos rfl
theorem lset_ne {m : Loc} {k x : Str} {d : D} (h : x ≠ k) : lset m k d x = m x := if_neg h
theorem lset_get {m : Loc} {k x : Str} {d : D} {e : Option D} (h : x ≠ k) (q : m x = e) : lset m k d x = e := (lset_ne h).trans q
theorem Hp.keep {H : Hp} {a b : Addr} {x y : X} (hb : H b = none) (ha : H a = some x) : (H.set b y) a = some x := by
  rw [Hp.set_ne _ _ (fun z => by subst z; rw [hb] at ha; cases ha)]; exact ha
theorem Hp.apart {H : Hp} {a b : Addr} {x : X} (ha : H a = some x) (hb : H b = none) : a ≠ b := fun z => by subst z; rw [hb] at ha; cases ha
theorem Hp.other {H : Hp} {a b : Addr} {x y : X} (ha : H a = some x) (hb : H b = some y) (h : x ≠ y) : a ≠ b := fun z => by subst z; rw [hb] at ha; cases ha; exact h rfl
end
section
set_option tactic.hygienic false

structure Own (H0 H : Hp) (L : List (Addr × X)) : Prop where
  sub : Sub H0 H
  new : ∀ p ∈ L, H0 p.1 = none
  has : ∀ p ∈ L, H p.1 = some p.2
  nd : (L.map (·.1)).Nodup
theorem Own.refl (H : Hp) : Own H H [] := ⟨.refl _, fun _ h => (List.not_mem_nil h).elim, fun _ h => (List.not_mem_nil h).elim, .nil⟩
theorem Own.alloc {H0 H : Hp} {L : List (Addr × X)} {a : Addr} {x : X} (o : Own H0 H L) (h : H a = none) : Own H0 (H.set a x) ((a, x) :: L) := by
  refine ⟨o.sub.set' (o.sub.fresh h), fun p hp => ?_, fun p hp => ?_, ?_⟩
  · cases hp with
    | head => exact o.sub.fresh h
    | tail _ hp => exact o.new p hp
  · cases hp with
    | head => exact Hp.set_self ..
    | tail _ hp => exact Hp.keep h (o.has p hp)
  · rw [List.map_cons, List.nodup_cons]
    refine ⟨fun z => ?_, o.nd⟩
    obtain ⟨p, hp, e⟩ := List.mem_map.mp z
    have := o.has p hp
    rw [e] at this
    rw [show H a = none from h] at this; cases this
theorem Own.get {H0 H : Hp} {L : List (Addr × X)} {a : Addr} {x : X} (o : Own H0 H L) (h : (a, x) ∈ L) : H a = some x := o.has _ h
theorem set_map_fst : ∀ {L : List (Addr × X)} {i : Nat} {a : Addr} {x y : X}, L[i]? = some (a, x) → (L.set i (a, y)).map (·.1) = L.map (·.1)
  | _ :: _, 0, _, _, _, h => by simp at h; simp [h]
  | _ :: L, i + 1, a, x, y, h => by
    have := set_map_fst (L := L) (i := i) (y := y) (by simpa using h)
    simpa using this
theorem Own.upd {H0 H : Hp} {L : List (Addr × X)} (o : Own H0 H L) (i : Nat) {a : Addr} {x y : X} (h : L[i]? = some (a, x)) : Own H0 (H.set a y) (L.set i (a, y)) := by
  have hm : (a, x) ∈ L := List.mem_of_getElem? h
  refine ⟨o.sub.set' (o.new (a, x) hm), fun p hp => ?_, fun p hp => ?_, by rw [set_map_fst h]; exact o.nd⟩
  · rcases List.mem_or_eq_of_mem_set hp with hp | rfl
    · exact o.new p hp
    · exact o.new (a, x) hm
  · by_cases e : p.1 = a
    · have hn : ((L.set i (a, y)).map (·.1)).Nodup := by rw [set_map_fst h]; exact o.nd
      have hi : i < L.length := (List.getElem?_eq_some_iff.mp h).1
      have hy : (a, y) ∈ L.set i (a, y) := List.mem_of_getElem? (i := i) (by rw [List.getElem?_set_self hi])
      have q : p = (a, y) := by
        obtain ⟨j, hj, e1⟩ := List.mem_iff_getElem.mp hp
        obtain ⟨k, hk, e2⟩ := List.mem_iff_getElem.mp hy
        have hpw := List.pairwise_iff_getElem.mp hn
        have hjk : j = k := by
          rcases Nat.lt_trichotomy j k with z | z | z
          · exact absurd (by rw [List.getElem_map, List.getElem_map, e1, e2, e]) (hpw j k (by simpa using hj) (by simpa using hk) z)
          · exact z
          · exact absurd (by rw [List.getElem_map, List.getElem_map, e1, e2, e]) (hpw k j (by simpa using hk) (by simpa using hj) z)
        subst hjk
        rw [← e1, e2]
      rw [q]; exact Hp.set_self ..
    · rcases List.mem_or_eq_of_mem_set hp with hp | rfl
      · exact (Hp.set_ne _ _ e).trans (o.has p hp)
      · exact absurd rfl e
theorem Own.weak {H0 H : Hp} {L L' : List (Addr × X)} (o : Own H0 H L) (h : List.Sublist L' L) : Own H0 H L' :=
  ⟨o.sub, fun p hp => o.new p (h.subset hp), fun p hp => o.has p (h.subset hp), List.Sublist.nodup (h.map _) o.nd⟩
theorem Own.perm {H0 H : Hp} {L L' : List (Addr × X)} (o : Own H0 H L) (h : L.Perm L') : Own H0 H L' :=
  ⟨o.sub, fun p hp => o.new p (h.mem_iff.mpr hp), fun p hp => o.has p (h.mem_iff.mpr hp), (h.map _).nodup_iff.mp o.nd⟩
theorem Own.trans {H0 H H' : Hp} {L L' : List (Addr × X)} (o : Own H0 H L) (o' : Own H H' L') : Own H0 H' (L' ++ L) := by
  refine ⟨o.sub.trans o'.sub, fun p hp => ?_, fun p hp => ?_, ?_⟩
  · rcases List.mem_append.mp hp with hp | hp
    · exact o.sub.fresh (o'.new p hp)
    · exact o.new p hp
  · rcases List.mem_append.mp hp with hp | hp
    · exact o'.has p hp
    · exact o'.sub _ _ (o.has p hp)
  · rw [List.map_append, List.nodup_append]
    refine ⟨o'.nd, o.nd, fun x hx y hy e => ?_⟩
    obtain ⟨p, hp, rfl⟩ := List.mem_map.mp hx
    obtain ⟨q, hq, rfl⟩ := List.mem_map.mp hy
    have a := o'.new p hp
    rw [e] at a
    have b := o.has q hq
    have a' : H q.1 = none := a
    rw [a'] at b; cases b
noncomputable def only (H0 : Hp) (L : List (Addr × X)) : Hp := L.foldr (fun p H => H.set p.1 p.2) H0

section
variable {G : Gd} {n : Nat} {env : Env} {m : Loc} {H : Hp} {Q : Fl → Loc → Hp → Prop} {rest : List Stmt}
theorem Ex.fresh {ss} (h : H env.locals = none → Ex G n env m H ss Q) : Ex G n env m H ss Q := fun s hL => h hL s hL
theorem Ev.fresh {e} {Q : D → Hp → Prop} (h : H env.locals = none → Ev G n env m H e Q) : Ev G n env m H e Q := fun s hL => h hL s hL
theorem Ev.locs {e} {Q : D → Hp → Prop} (h : Ev G n env m H e fun d H' => H' env.locals = none → Q d H') : Ev G n env m H e Q := fun s hL => (h s hL).mono fun d _ ⟨H'', a, b, c⟩ => ⟨H'', a, b, c b⟩
theorem EvPB.conv {e b b'} (h : EvPB G n env m H e b) (q : b = b') : EvPB G n env m H e b' := q ▸ h
theorem ExP.conv {ss d d'} (h : ExP G n env m H ss d) (e : d = d') : ExP G n env m H ss d' := e ▸ h
theorem Ex.iteP {test body orelse pos x} (h : EvPB G n env m H test x) (h1 : x = true → Ex G n env m H body (Thn G n env rest Q)) (h2 : x = false → Ex G n env m H orelse (Thn G n env rest Q)) : Ex G n env m H (.If test body orelse pos :: rest) Q := Ex.ite (h.to ⟨h1, h2⟩)

theorem Ev.builtT {x pos id} {Q : D → Hp → Prop} (hx' : nsIn G.K mainGlobals x = some none) (hv : bootBuiltins x = some (.type id)) (q : Q (.ty id) H) (hk : env.scope.kind = .function := by rfl) (hg : env.globals = mainGlobals := by rfl) (hb : env.builtins = builtinsNs := by rfl) (hn : x ≠ "__name__" := by decide)
    (hx : env.kindOf x = some .globalImplicit := by rfl) (hd : (x == ("__debug__" : Str)) = false := by decide) : Ev G n env m H (.Name x pos) Q := Ev.built hx' hv (fun _ => .ty _) q hk hg hb hn hx hd
theorem Ev.callTy {x p e rest pos id} {Q : D → Hp → Prop} (hx' : nsIn G.K mainGlobals x = some none) (hv : bootBuiltins x = some (.type id)) (h : EvL G n env m H pos (e :: rest) fun ds H2 => Cal G n H2 (.type id) ds Q) (hk : env.scope.kind = .function := by rfl) (hg : env.globals = mainGlobals := by rfl) (hb : env.builtins = builtinsNs := by rfl) (hn : x ≠ "__name__" := by decide)
    (hx : env.kindOf x = some .globalImplicit := by rfl) (hd : (x == ("__debug__" : Str)) = false := by decide)
    (he : starEach (e :: rest) env = (false, eval e env) :: starEach rest env := by rfl) (hp : (backTo pos (starEach rest env)).any (·.1) = false := by rfl) : Ev G n env m H (.Call (.Name x p) (e :: rest) [] pos) Q :=
  Ev.callT (Ev.builtT hx' hv ⟨rfl, h⟩ hk hg hb hn hx hd) he hp
theorem Ev.callG {x p e rest pos f} {Q : D → Hp → Prop} (hx' : nsIn G.K mainGlobals x = some (some (.ref f))) (hkp : keepIn G.K (.ref f) = true) (h : EvL G n env m H pos (e :: rest) fun ds H2 => Cal G n H2 (.ref f) ds Q) (hk : env.scope.kind = .function := by rfl) (hg : env.globals = mainGlobals := by rfl)
    (hx : env.kindOf x = some .globalImplicit := by rfl) (hd : (x == ("__debug__" : Str)) = false := by decide)
    (he : starEach (e :: rest) env = (false, eval e env) :: starEach rest env := by rfl) (hp : (backTo pos (starEach rest env)).any (·.1) = false := by rfl) : Ev G n env m H (.Call (.Name x p) (e :: rest) [] pos) Q :=
  Ev.callD hkp (Ev.glob hx' IsTop.ref ⟨rfl, h⟩ hk hg hx hd) he hp
theorem Ev.callG0 {x p pos f} {Q : D → Hp → Prop} (hx' : nsIn G.K mainGlobals x = some (some (.ref f))) (hkp : keepIn G.K (.ref f) = true) (h : Cal G n H (.ref f) [] Q) (hk : env.scope.kind = .function := by rfl) (hg : env.globals = mainGlobals := by rfl)
    (hx : env.kindOf x = some .globalImplicit := by rfl) (hd : (x == ("__debug__" : Str)) = false := by decide) : Ev G n env m H (.Call (.Name x p) [] [] pos) Q :=
  Ev.callD0 hkp (Ev.glob hx' IsTop.ref ⟨rfl, h⟩ hk hg hx hd)
theorem Ex.append {o e apos pos spos a l0} {pl : Sem Bool} (ho : EvP G n env m H o (.ref a)) (h0 : H a = some (.lst l0))
    (h : Ev G n env m H e fun d H2 => ∃ l, H2 a = some (.lst l) ∧ l.length ≤ sizeLine ∧ Ex G n env m (H2.set a (.lst (l ++ [d]))) rest Q)
    (he : eval (.Call (.Attribute o (Str.ofString "append") apos) [e] [] pos) env = (do
      let ov ← eval o env
      standAt apos.atName
      let (f, first) ← holding [ov] (getMethod ov (Str.ofString "append") pl)
      callWith pos f first (backTo pos (starEach (e :: []) env)) []) := by rfl)
    (hs : starEach (e :: []) env = (false, eval e env) :: starEach [] env := by rfl) (hi : interactive env = false := by rfl) (hsw : swapsWith (.Call (.Attribute o (Str.ofString "append") apos) [e] [] pos) none spos.line env = pure false := by rfl) :
    Ex G n env m H (.Expr (.Call (.Attribute o (Str.ofString "append") apos) [e] [] pos) spos :: rest) Q := Ex.fresh fun hL =>
  Ex.expr (Ev.methB (T := "list") (id := "list.append") (pl := pl) PySem.F.plainAttrs_list PySem.F.slot_list_append PySem.F.type_list_append (ho.to ⟨a, rfl, list_there hL h0, EvL.cons (Ev.mono h fun d H2 ⟨l, g1, g2, g3⟩ => EvL.nil (Cal.append g1 g3 g2)) hs⟩) he hs rfl) hi hsw

-- fors
theorem Ex.forEnum {target x p e cpos body pos l ds} (hn : 1 ≤ n) (hx' : nsIn G.K mainGlobals x = some none) (hv : bootBuiltins x = some (.type "enumerate")) (he : EvP G n env m H e (.ref l)) (hl : H l = some (.lst ds)) (ht : isTp target = true)
    (h : Lp G n env target body (fun H => H l = some (.lst ds)) (enuL ds) m H (Thn G n env rest Q)) (hk : env.scope.kind = .function := by rfl) (hg : env.globals = mainGlobals := by rfl) (hb : env.builtins = builtinsNs := by rfl) (hnn : x ≠ "__name__" := by decide)
    (hx : env.kindOf x = some .globalImplicit := by rfl) (hd : (x == ("__debug__" : Str)) = false := by decide)
    (hst : starEach (e :: []) env = (false, eval e env) :: starEach [] env := by rfl) (hs : ∀ y, foldedSetIterable (.Call (.Name x p) [e] [] cpos) env y = pure y := by intro _; rfl) :
    Ex G n env m H (.For target (.Call (.Name x p) [e] [] cpos) body [] pos :: rest) Q := Ex.fresh fun hL =>
  Ex.for' hn (Ev.callTy hx' hv (EvL.cons (he.to (EvL.nil (Cal.enumL (LstAt.own hl) fun it e' h1 h2 h3 => ⟨isTp, H, enuL ds, _, Itr.enL h3 h1 h2, ht, hL, h⟩))) hst) hk hg hb hnn hx hd hst rfl) hs
theorem Ex.forEnumT {target x p e cpos body pos ds} (hn : 1 ≤ n) (hx' : nsIn G.K mainGlobals x = some none) (hv : bootBuiltins x = some (.type "enumerate")) (he : EvP G n env m H e (.tup ds)) (ht : isTp target = true)
    (h : Lp G n env target body (fun _ => True) (enuL ds) m H (Thn G n env rest Q)) (hk : env.scope.kind = .function := by rfl) (hg : env.globals = mainGlobals := by rfl) (hb : env.builtins = builtinsNs := by rfl) (hnn : x ≠ "__name__" := by decide)
    (hx : env.kindOf x = some .globalImplicit := by rfl) (hd : (x == ("__debug__" : Str)) = false := by decide)
    (hst : starEach (e :: []) env = (false, eval e env) :: starEach [] env := by rfl) (hs : ∀ y, foldedSetIterable (.Call (.Name x p) [e] [] cpos) env y = pure y := by intro _; rfl) :
    Ex G n env m H (.For target (.Call (.Name x p) [e] [] cpos) body [] pos :: rest) Q := Ex.fresh fun hL =>
  Ex.for' hn (Ev.callTy hx' hv (EvL.cons (he.to (EvL.nil (Cal.enumT fun it e' h1 h2 h3 => ⟨isTp, H, enuL ds, _, Itr.enT h3 h1 h2, ht, hL, h⟩))) hst) hk hg hb hnn hx hd hst rfl) hs
theorem Ex.forLst {target iter body pos l ds} (hn : 1 ≤ n) (he : EvP G n env m H iter (.ref l)) (hl : H l = some (.lst ds)) (ht : isTgt target = true)
    (h : Lp G n env target body (fun H => H l = some (.lst ds)) ds m H (Thn G n env rest Q)) (hs : ∀ y, foldedSetIterable iter env y = pure y := by intro _; rfl) :
    Ex G n env m H (.For target iter body [] pos :: rest) Q := Ex.fresh fun hL => Ex.for' hn (he.to ⟨_, _, ds, _, Itr.lst hl, ht, hL, h⟩) hs
theorem Ex.forTup {target iter body pos ds} (hn : 1 ≤ n) (he : EvP G n env m H iter (.tup ds)) (ht : isTgt target = true)
    (h : Lp G n env target body (fun _ => True) ds m H (Thn G n env rest Q)) (hs : ∀ y, foldedSetIterable iter env y = pure y := by intro _; rfl) :
    Ex G n env m H (.For target iter body [] pos :: rest) Q := Ex.fresh fun hL => Ex.for' hn (he.to ⟨_, _, ds, _, Itr.tup, ht, hL, h⟩) hs
theorem Ex.forRng1 {target x p e cpos body pos} {hi : Int} (hn : 1 ≤ n) (hx' : nsIn G.K mainGlobals x = some none) (hv : bootBuiltins x = some (.type "range")) (he : EvP G n env m H e (.int hi)) (h3 : -(2 ^ 62) ≤ hi) (h4 : hi < 2 ^ 62) (ht : isNm target = true)
    (h : Lp G n env target body (fun _ => True) (rngL 0 hi) m H (Thn G n env rest Q)) (hk : env.scope.kind = .function := by rfl) (hg : env.globals = mainGlobals := by rfl) (hb : env.builtins = builtinsNs := by rfl) (hnn : x ≠ "__name__" := by decide)
    (hx : env.kindOf x = some .globalImplicit := by rfl) (hd : (x == ("__debug__" : Str)) = false := by decide)
    (hst : starEach (e :: []) env = (false, eval e env) :: starEach [] env := by rfl) (hs : ∀ y, foldedSetIterable (.Call (.Name x p) [e] [] cpos) env y = pure y := by intro _; rfl) :
    Ex G n env m H (.For target (.Call (.Name x p) [e] [] cpos) body [] pos :: rest) Q := Ex.fresh fun hL =>
  Ex.for' hn (Ev.callTy hx' hv (EvL.cons (he.to (EvL.nil (Cal.rng1 ⟨isNm, H, rngL 0 hi, _, Itr.rng (by one_sign) (by one_sign) h3 h4, ht, hL, h⟩))) hst) hk hg hb hnn hx hd hst rfl) hs
theorem Ex.forRng2 {target x p e e2 cpos body pos} {lo hi : Int} (hn : 1 ≤ n) (hx' : nsIn G.K mainGlobals x = some none) (hv : bootBuiltins x = some (.type "range")) (he : EvP G n env m H e (.int lo)) (he2 : EvP G n env m H e2 (.int hi)) (h1 : -(2 ^ 62) ≤ lo) (h2 : lo < 2 ^ 62) (h3 : -(2 ^ 62) ≤ hi) (h4 : hi < 2 ^ 62) (ht : isNm target = true)
    (h : Lp G n env target body (fun _ => True) (rngL lo hi) m H (Thn G n env rest Q)) (hk : env.scope.kind = .function := by rfl) (hg : env.globals = mainGlobals := by rfl) (hb : env.builtins = builtinsNs := by rfl) (hnn : x ≠ "__name__" := by decide)
    (hx : env.kindOf x = some .globalImplicit := by rfl) (hd : (x == ("__debug__" : Str)) = false := by decide)
    (hst : starEach (e :: [e2]) env = (false, eval e env) :: starEach [e2] env := by rfl) (hst2 : starEach (e2 :: []) env = (false, eval e2 env) :: starEach [] env := by rfl) (hp : (backTo cpos (starEach [e2] env)).any (·.1) = false := by rfl) (hs : ∀ y, foldedSetIterable (.Call (.Name x p) [e, e2] [] cpos) env y = pure y := by intro _; rfl) :
    Ex G n env m H (.For target (.Call (.Name x p) [e, e2] [] cpos) body [] pos :: rest) Q := Ex.fresh fun hL =>
  Ex.for' hn (Ev.callTy hx' hv (EvL.cons (he.to (EvL.cons (he2.to (EvL.nil (Cal.rng2 ⟨isNm, H, rngL lo hi, _, Itr.rng h1 h2 h3 h4, ht, hL, h⟩))) hst2)) hst) hk hg hb hnn hx hd hst hp) hs
end

end
section
set_option tactic.hygienic false

theorem pickL_plain {α : Type} (xs : List α) (lo hi : Option Int) : pickL xs lo hi none = (xs.drop (lo.elim 0 (clipAt xs.length))).take (hi.elim xs.length (clipAt xs.length) - lo.elim 0 (clipAt xs.length)) := by
  unfold pickL
  rw [sliceBounds_plain]
  simp only [sliceRange_one]
  have := pick_run xs.toArray (lo.elim 0 (clipAt xs.length)) (hi.elim xs.length (clipAt xs.length) - lo.elim 0 (clipAt xs.length))
  simpa using this
theorem pickL_upto {α : Type} (xs : List α) {b : Int} (hb : 0 ≤ b) : pickL xs none (some b) none = xs.take b.toNat := by
  obtain ⟨b, rfl⟩ := Int.eq_ofNat_of_zero_le hb
  rw [pickL_plain]
  simp only [Option.elim, clipAt_nat, List.drop_zero, Nat.sub_zero, Int.toNat_natCast]
  rcases Nat.le_total b xs.length with h | h
  · rw [Nat.min_eq_left h]
  · rw [Nat.min_eq_right h, List.take_of_length_le (Nat.le_refl _), List.take_of_length_le h]
theorem pickL_from {α : Type} (xs : List α) {a : Int} (ha : 0 ≤ a) : pickL xs (some a) none none = xs.drop a.toNat := by
  obtain ⟨a, rfl⟩ := Int.eq_ofNat_of_zero_le ha
  rw [pickL_plain]
  simp only [Option.elim, clipAt_nat, Int.toNat_natCast]
  rcases Nat.le_total a xs.length with h | h
  · rw [Nat.min_eq_left h, List.take_of_length_le (by simp)]
  · rw [Nat.min_eq_right h, List.drop_of_length_le (Nat.le_refl _), List.drop_of_length_le h]; simp
theorem pickL_run {α : Type} (xs : List α) {a b : Int} (ha : 0 ≤ a) (hb : 0 ≤ b) : pickL xs (some a) (some b) none = (xs.drop a.toNat).take (b.toNat - a.toNat) := by
  obtain ⟨a, rfl⟩ := Int.eq_ofNat_of_zero_le ha
  obtain ⟨b, rfl⟩ := Int.eq_ofNat_of_zero_le hb
  rw [pickL_plain]
  simp only [Option.elim, clipAt_nat, Int.toNat_natCast]
  apply List.ext_getElem?
  intro i
  simp only [List.getElem?_take, List.getElem?_drop]
  by_cases h1 : i < b - a
  · by_cases h2 : a + i < xs.length
    · rw [if_pos (by omega), if_pos h1, show min a xs.length + i = a + i by omega]
    · rw [if_pos h1]
      have e1 : xs[a + i]? = none := List.getElem?_eq_none_iff.mpr (by omega)
      rw [e1]
      split
      · exact List.getElem?_eq_none_iff.mpr (by omega)
      · rfl
  · rw [if_neg h1, if_neg (by omega)]
theorem down_range (n : Nat) : sliceRange ((n : Int) - 1) (-1) (-1) = (List.range n).map fun k => n - 1 - k := by
  unfold sliceRange
  rw [if_neg (by decide)]
  by_cases h : n = 0
  · subst h; rfl
  · rw [if_pos (by omega)]
    have e : (((n : Int) - 1 - -1 - -1 - 1) / -(-1)).toNat = n := by
      rw [show (-(-1) : Int) = 1 by decide, Int.ediv_one]; omega
    simp only [e]
    apply List.map_congr_left
    intro k hk
    omega
theorem down_pick {α : Type} (xs : List α) (n : Nat) (h : n ≤ xs.length) : ((List.range n).map fun k => n - 1 - k).filterMap (xs[·]?) = (xs.take n).reverse := by
  induction n with
  | zero => simp
  | succ n ih =>
    rw [List.range_succ_eq_map, List.map_cons, List.map_map]
    have hn : n < xs.length := h
    have e : ((fun k => n + 1 - 1 - k) ∘ Nat.succ) = fun k => n - 1 - k := by funext k; simp; omega
    rw [e, List.filterMap_cons, show n + 1 - 1 - 0 = n by omega, List.getElem?_eq_getElem hn]
    simp only
    have e2 : xs.take (n + 1) = xs.take n ++ [xs[n]] := by rw [List.take_add_one, List.getElem?_eq_getElem hn]; rfl
    rw [ih (by omega), e2, List.reverse_append]
    rfl
theorem pickL_rev {α : Type} (xs : List α) : pickL xs none none (some (-1)) = xs.reverse := by
  unfold pickL
  have e : sliceBounds none none (some (-1)) xs.length = ((xs.length : Int) - 1, -1, -1) := by simp [sliceBounds]
  rw [e]
  simp only
  rw [down_range, down_pick xs xs.length (Nat.le_refl _), List.take_length]
section
variable {G : Gd} {n : Nat} {env : Env} {m : Loc} {H : Hp}
theorem Ex.iteJ {test body pos b rest} {Q : Fl → Loc → Hp → Prop} {P : Loc → Hp → Prop} (ht : EvPB G n env m H test b) (h1 : b = true → Ex G n env m H body (fun fl m' H' => fl = .next ∧ P m' H')) (h2 : b = false → P m H) (h3 : ∀ m' H', P m' H' → Ex G n env m' H' rest Q) : Ex G n env m H (.If test body [] pos :: rest) Q :=
  Ex.iteP ht (fun e => Ex.mono (h1 e) fun fl m' H' ⟨a, p⟩ => by subst a; exact h3 m' H' p) (fun e => Ex.nil (h3 _ _ (h2 e)))
theorem EvP.builtT {x pos id} (hx' : nsIn G.K mainGlobals x = some none) (hv : bootBuiltins x = some (.type id)) (hk : env.scope.kind = .function := by rfl) (hg : env.globals = mainGlobals := by rfl) (hb : env.builtins = builtinsNs := by rfl) (hn : x ≠ "__name__" := by decide)
    (hx : env.kindOf x = some .globalImplicit := by rfl) (hd : (x == ("__debug__" : Str)) = false := by decide) : EvP G n env m H (.Name x pos) (.ty id) := ⟨Ev.builtT hx' hv ⟨rfl, rfl⟩ hk hg hb hn hx hd⟩
theorem CalP.isB {d b} (hb : isBool d = some b) : CalP G n H (.builtin "isinstance") [d, .ty "bool"] (.bool b) := ⟨Cal.isB hb ⟨rfl, rfl⟩⟩
end
end
section
set_option tactic.hygienic false

-- dicts as lists
theorem kt_eq {k j : Ky} {e : D} (h : kt k e = true) (g : kt j e = true) : k = j := by
  cases k <;> cases j <;> cases e <;> simp_all [kt]
theorem kget_kput_ne {k j : Ky} {d : D} (h : j ≠ k) : ∀ l : List (D × D), kget j (kput k d l) = kget j l
  | [] => by
    show (if kt j (kd k) = true then some d else none) = none
    rw [kt_kd, if_neg (by simpa using Ne.symm h)]
  | (e, x) :: r => by
    unfold kput
    by_cases q : kt k e = true
    · rw [if_pos q]
      have : ¬ kt j e = true := fun z => h (kt_eq z q)
      unfold kget; rw [if_neg this, if_neg this]
    · rw [if_neg q]; unfold kget; rw [kget_kput_ne h r]
theorem kget_kput_self {k : Ky} {d : D} : ∀ l : List (D × D), kget k (kput k d l) = some d
  | [] => by show (if kt k (kd k) = true then some d else none) = _; rw [kt_kd, if_pos (by simp)]
  | (e, x) :: r => by
    unfold kput
    by_cases q : kt k e = true
    · rw [if_pos q]; unfold kget; rw [if_pos q]
    · rw [if_neg q]; unfold kget; rw [if_neg q, kget_kput_self r]
theorem kput_len {k : Ky} {d : D} : ∀ l : List (D × D), (kput k d l).length ≤ l.length + 1
  | [] => by simp [kput]
  | (e, x) :: r => by
    have := kput_len (k := k) (d := d) r
    unfold kput; split <;> simp only [List.length_cons] <;> one_sign
theorem kput_any {k j : Ky} {d : D} (h : j ≠ k) : ∀ l : List (D × D), ((kput k d l).any fun q => kt j q.1) = l.any fun q => kt j q.1
  | [] => by
    show (kt j (kd k) || false) = false
    rw [kt_kd]; simpa using Ne.symm h
  | (e, x) :: r => by
    unfold kput
    by_cases q : kt k e = true
    · rw [if_pos q]; rfl
    · rw [if_neg q, List.any_cons, List.any_cons, kput_any h r]
theorem kOf_kt {k : Ky} {e : D} (h : kOf e = some k) : ∀ j, kt j e = decide (k = j) := fun j => by
  cases e <;> cases k <;> cases j <;> simp_all [kOf, kt]
theorem knodB_kput {k : Ky} {d : D} : ∀ {l : List (D × D)}, knodB l = true → knodB (kput k d l) = true
  | [], _ => by
    unfold kput knodB
    simp [kOf_kd, knodB]
  | (e, x) :: r, h => by
    unfold knodB at h
    rw [Bool.and_eq_true] at h
    unfold kput
    by_cases q : kt k e = true
    · rw [if_pos q]; unfold knodB; rw [Bool.and_eq_true]; exact h
    · rw [if_neg q]
      unfold knodB
      rw [Bool.and_eq_true]
      refine ⟨?_, knodB_kput h.2⟩
      have h1 := h.1
      simp only at h1 ⊢
      cases ek : kOf e with
      | none => rfl
      | some j =>
        rw [ek] at h1
        simp only at h1 ⊢
        have : j ≠ k := fun z => by subst z; exact q (by rw [kOf_kt ek]; simp)
        rw [kput_any this]; exact h1
noncomputable def tf : D → Bool
  | .tup _ => false
  | .rng _ _ => false
  | _ => true
noncomputable def TFd (l : List (D × D)) : Prop := ∀ p ∈ l, tf p.2 = true
theorem TFd.kput {k : Ky} {d : D} (hd : tf d = true) : ∀ {l : List (D × D)}, TFd l → TFd (kput k d l)
  | [], _ => fun p hp => by simp [Mine.kput] at hp; rw [hp]; exact hd
  | (e, x) :: r, h => by
    unfold Mine.kput
    split
    · intro p hp
      cases hp with
      | head => exact hd
      | tail _ hp => exact h p (.tail _ hp)
    · intro p hp
      cases hp with
      | head => exact h _ (.head _)
      | tail _ hp => exact TFd.kput hd (fun q hq => h q (.tail _ hq)) p hp
section
variable {G : Gd} {n : Nat} {env : Env} {m : Loc} {H : Hp}
theorem Ev.opq {e} {Q : D → Hp → Prop} (h : Ev G n env m H e fun d H1 => (∃ l, d = .tup l) ∧ ∀ a, Q (.ref a) H1) : Ev G n env m H e Q := by
  intro s hL B A T O S
  refine wpAny_mono (h s hL B A T O S) ?_ fun _ _ z => z
  rintro v s1 ⟨_, _, i, S1, st1, H1, rfl, hL1, ⟨l, rfl⟩, h1⟩
  cases i with | tup t _ => exact ⟨_, _, .ref _, S1, st1, H1, rfl, hL1, h1 _⟩
end

end
section
set_option tactic.hygienic false
section
variable {G : Gd} {n : Nat} {env : Env} {m : Loc} {H : Hp} {Q : D → Hp → Prop}
theorem Ev.methE {o name apos e rest pos C f} {pl : Sem Bool} (hg : plainGet G.K C name = true) (hf : findIn G.K (.ref C) name = some (some (.ref f))) (ht : isFn G.K (.ref f) = true) (hk : keepIn G.K (.ref f) = true)
    (h : Ev G n env m H o fun d H1 => ∃ x dx l, d = .ref x ∧ H1 x = some (.ins C dx) ∧ H1 dx = some (.dct l) ∧ sget name l = none ∧ EvL G n env m H1 pos (e :: rest) fun ds H2 => Cal G n H2 (.ref f) (.ref x :: ds) Q)
    (he : eval (.Call (.Attribute o name apos) (e :: rest) [] pos) env = (do
      let ov ← eval o env
      standAt apos.atName
      let (f, first) ← holding [ov] (getMethod ov name pl)
      callWith pos f first (backTo pos (starEach (e :: rest) env)) []) := by rfl)
    (hs : starEach (e :: rest) env = (false, eval e env) :: starEach rest env := by rfl) (hp : (backTo pos (starEach rest env)).any (·.1) = false := by rfl) :
    Ev G n env m H (.Call (.Attribute o name apos) (e :: rest) [] pos) Q := by
  intro s hL B A T O S
  refine MethodCall_ (pl := pl) (wpAny_mono (h s hL B A T O S) ?_ fun _ _ z => z) he
  rintro v1 s1 ⟨_, _, i1, S1, st1, H1, rfl, hL1, x, dx, l, rfl, hx, hdx, hl, h1⟩
  (first | (replace i1 := i1.inv; obtain rfl := i1) | (replace i1 := i1.inv; obtain ⟨_, rfl⟩ := i1) | cases i1)
  have ne : ∀ {a y}, H1 a = some y → a ≠ env.locals := fun q z => by rw [z, hL1] at q; cases q
  obtain ⟨es, k, I, en⟩ := inst_at (H := H1.set env.locals (.ns m)) S1 ((Hp.set_ne _ _ (ne hx)).trans hx) ((Hp.set_ne _ _ (ne hdx)).trans hdx)
  refine PySem.W.method_fn (T.k.keeps S1.keep) I (plainGet_of hg).1 (plainGet_of hg).2 hf (beq_iff_eq.mp ht) (by show (lookIn name (dictOf es k)).map _ = _; rw [lookIn_dict, en.getL_none hl]; rfl) ?_
  refine callWith_K (T.k.keeps S1.keep) hk (wpAny_mono (h1 s1 hL1 B A T O S1) ?_ fun _ _ z => z) hs hp
  rintro vs s2 ⟨ds, _, i2, S2, st2, H2, rfl, hL2, h2⟩
  refine ⟨T.k.keeps S2.keep, wpAny_mono ((h2 s2 (.ref x :: vs) (.cons (.ref x) i2)).frame hL2 B A T O S2) ?_ fun _ _ z => z⟩
  rintro v3 s3 ⟨d3, H3, i3, S3, st3, q⟩
  exact ⟨d3, H3, i3, S3, (st1.trans st2).trans st3, q⟩
end

end
section
set_option tactic.hygienic false

noncomputable def LstI (G : Gd) (H : Hp) (a : Addr) (l : List D) : Prop := ∀ B h, TopOk G B → Sat G B H h → ∃ vs : List Value, h.IsList a vs.toArray ∧ IsL h vs l
section
variable {G : Gd} {n : Nat} {env : Env} {m : Loc} {H : Hp} {Q : D → Hp → Prop}
theorem ints_isL {h : Heap} : ∀ {vs : List Value} {ns : List Int}, IntsAre vs ns → IsL h vs (ns.map .int)
  | _, _, .nil => .nil
  | _, _, .cons _ _ r => .cons (.int _ _) (ints_isL r)
theorem LstI.script : LstI G H G.sc (G.si.map .int) := fun B h' T S => by
  obtain ⟨vs, a, b⟩ := T.s
  exact ⟨vs, a.at fun o e => S.keep _ o e, ints_isL b⟩
theorem Ev.slcI {value : Expr} {lo hi step : Option Expr} {p pos : Pos}
    (h : Ev G n env m H value fun d H1 => ∃ l xs a b c, d = .ref l ∧ LstI G H1 l xs ∧ EvO G n env m H1 lo a ∧ EvO G n env m H1 hi b ∧ EvO G n env m H1 step c ∧ c ≠ some 0 ∧ xs.length ≤ sizeLine ∧ ∀ a', H1 a' = none → Q (.ref a') (H1.set a' (.lst (pickL xs a b c)))) :
    Ev G n env m H (.Subscript value (.Slice lo hi step p) pos) Q := by
  intro s hL B A T O S
  refine Subscript_ (wpAny_mono (h s hL B A T O S) ?_ fun _ _ z => z)
  rintro v1 s1 ⟨d1, _, i1, S1, st1, H1, rfl, hL1, l, xs, a, b, c, rfl, hl, ha, hb, hc, h0, hz, q⟩
  (first | (replace i1 := i1.inv; obtain rfl := i1) | (replace i1 := i1.inv; obtain ⟨_, rfl⟩ := i1) | cases i1)
  refine wpAny_Slice (wpAny_mono (ha.run hL1 T O S1) ?_ fun _ _ z => z)
  rintro va s2 ⟨pa, S2, st2⟩
  refine wpAny_mono (hb.run hL1 T O S2) ?_ fun _ _ z => z
  rintro vb s3 ⟨pb, S3, st3⟩
  refine wpAny_mono (hc.run hL1 T O S3) ?_ fun _ _ z => z
  rintro vc s4 ⟨pc, S4, st4⟩
  obtain ⟨vs, t, i⟩ := hl B _ T (S4.drop hL1)
  have k1 := push_keeps s4.heap { cls := .type "slice", data := .fields #[va, vb, vc] }
  have S5 := S4.keeps k1
  have k2 := push_keeps (s4.heap.push { cls := .type "slice", data := .fields #[va, vb, vc] }) { cls := .type "list", data := .seq (slicePick vs.toArray a b c) }
  have kp : TupKeep s4.heap _ := .trans (.keeps k1) (.keeps k2)
  have hf := S5.fresh (Nat.le_refl _)
  have S6 := S5.new (x := .lst (pickL xs a b c)) k2 (Nat.le_refl _) ⟨(slicePick vs.toArray a b c).toList, ⟨_, Heap.get?_push_size _ rfl⟩, (i.mono kp).pick a b c⟩
  obtain ⟨ops, e⟩ := subscripted_false (.Slice lo hi step p) (.ref l) (.ref s4.heap.objs.size)
  have t' := t.push { cls := .type "slice", data := .fields #[va, vb, vc] }
  refine tail_any (Heap.IsList.typeIs (s := { s4 with heap := s4.heap.push { cls := .type "slice", data := .fields #[va, vb, vc] } }) t') list_getitem_lookup (wpAny_getItem_list_slice t' (Heap.IsSliceOf.new ..) pa pb pc h0 ?_ (by rw [List.size_toArray, i.length]; exact hz)) e
  have ne : (s4.heap.push { cls := .type "slice", data := .fields #[va, vb, vc] }).objs.size ≠ env.locals := fun z => by rw [z, Hp.set_self] at hf; cases hf
  rw [Hp.set_ne _ _ ne] at hf
  refine ⟨_, _, .ref _, S6, (((st1.trans st2).trans st3).trans st4).trans (.hp kp), _, Hp.set_comm _ _ _ (Ne.symm ne), ?_, q _ hf⟩
  rw [Hp.set_ne _ _ (Ne.symm ne)]; exact hL1
end

end
section
set_option tactic.hygienic false
open Builtin

structure ZA (z TI TO i1 i2 : Addr) (fp1 fp2 : List Addr) : Prop where
  zTO : z ≠ TO
  zTI : z ≠ TI
  TITO : TI ≠ TO
  i1z : i1 ≠ z
  i1TO : i1 ≠ TO
  i1TI : i1 ≠ TI
  i2z : i2 ≠ z
  i2TO : i2 ≠ TO
  i2TI : i2 ≠ TI
  i12 : i1 ≠ i2
  z1 : z ∉ fp1
  TO1 : TO ∉ fp1
  i21 : i2 ∉ fp1
  z2 : z ∉ fp2
  TO2 : TO ∉ fp2
  i12' : i1 ∉ fp2
structure ZS (h : Heap) (z TI TO i1 i2 : Addr) (f0 : Value) : Prop where
  z : IsZip h z TI TO f0
  ti : IsPair h TI (.ref i1) (.ref i2)
  to : ∃ a b, IsPair h TO a b
section
variable {prog : Program} {w : World} {A : Around} {E : Value → Shared → Prop} {s : Shared}
variable {z TI TO i1 i2 : Addr} {fp1 fp2 : List Addr} {n1 n2 : Nat} {P1 P2 : Nat → Value → Prop} {St1 St2 : Nat → Heap → Prop} {k : Nat}
end
-- facts that speak of no tuple
noncomputable def tfX : X → Prop
  | .lst l => ∀ d ∈ l, tf d = true
  | .dct l => TFd l
  | .ins _ _ => True
  | .ns m => ∀ x d, m x = some d → tf d = true
  | .cel d => ∀ d', d = some d' → tf d' = true
  | .raw P _ => ∀ h h' o, P h o → P h' o
noncomputable def TFh (H : Hp) : Prop := ∀ a x, H a = some x → tfX x
noncomputable def TFm (m : Loc) : Prop := ∀ x d, m x = some d → tf d = true
end
section
set_option tactic.hygienic false
open Builtin

noncomputable def zipL (xs ys : List D) : List D := (xs.zip ys).map fun p => .tup [p.1, p.2]
noncomputable def ZLp (G : Gd) (n : Nat) (env : Env) (target : Expr) (body : List Stmt) : List D → Loc → Hp → (Fl → Loc → Hp → Prop) → Prop
  | [], m, H, Q => ∃ m0 H0, (∀ x d, m0 x = some d → m x = some d) ∧ (∀ a x, H0 a = some x → H a = some x) ∧ TFm m0 ∧ TFh H0 ∧ Q .next m0 H0
  | d :: ds, m, H, Q => ∃ m0 H0, (∀ x d, m0 x = some d → m x = some d) ∧ (∀ a x, H0 a = some x → H a = some x) ∧ TFm m0 ∧ TFh H0 ∧ Asg G n env m0 H0 target d fun m1 H1 => Ex G n env m1 H1 body fun fl m2 H2 => match fl with
    | .next => ZLp G n env target body ds m2 H2 Q
    | .cont => ZLp G n env target body ds m2 H2 Q
    | .brk => Q .next m2 H2
    | .ret r => Q (.ret r) m2 H2
section
variable {G : Gd} {n : Nat} {env : Env} {m : Loc} {H : Hp} {Q : Fl → Loc → Hp → Prop} {rest : List Stmt}
inductive ZpI (G : Gd) (n : Nat) (env : Env) (elts : List Expr) (tk : Nat) (tpos : Pos) (body : List Stmt) (xs ys : List D) (vs ws : List Value) (N0 t1 t2 : Nat) (B : Heap) (s₀ : Shared) (Q : Fl → Loc → Hp → Prop) (j : Nat) (s' : Shared) : Prop
  | mk (k : Nat) (m : Loc) (H : Hp) (hj : j = xs.length - k) (l : H env.locals = none) (hn : ∀ a ∈ [N0 + 4, N0 + 2, N0 + 3, N0, N0 + 1], H a = none) (S : Sat G B (H.set env.locals (.ns m)) s'.heap) (st : Step s₀ s') (z : ZS s'.heap (N0 + 4) (N0 + 2) (N0 + 3) N0 (N0 + 1) .none) (s1 : s'.heap.IsTupleIter N0 t1 k ∧ s'.heap.IsTuple t1 vs.toArray) (s2 : s'.heap.IsTupleIter (N0 + 1) t2 k ∧ s'.heap.IsTuple t2 ws.toArray) (sz : N0 + 5 ≤ s'.heap.objs.size) (hk : k ≤ xs.length) (q : ZLp G n env (.Tuple elts tk tpos) body ((zipL xs ys).drop k) m H Q)
end

end
section
set_option tactic.hygienic false
theorem seqIndex_pos {p : Int} {n : Nat} (h0 : 0 ≤ p) (h1 : p < n) : seqIndex? p n = some p.toNat := by
  unfold seqIndex?
  have e : (if p < 0 then p + n else p) = p := if_neg (by one_sign)
  simp only [e]
  rw [if_pos]
  rw [Bool.and_eq_true]; exact ⟨decide_eq_true h0, decide_eq_true h1⟩
section
variable {G : Gd} {n : Nat} {env : Env} {m : Loc} {H : Hp}
theorem dk_str {l r : List D} (h1 : ∀ d ∈ l, ∃ s, d = .str s) (h2 : ∀ d ∈ r, ∃ s, d = .str s) : ((l.zip r).all fun p => dk p.1 p.2) = true := by
  rw [List.all_eq_true]
  intro p hp
  obtain ⟨s, e⟩ := h1 p.1 (List.of_mem_zip hp).1
  obtain ⟨t, f⟩ := h2 p.2 (List.of_mem_zip hp).2
  rw [e, f]; rfl
theorem leq_str {l r : List D} (e : l = r) (h1 : ∀ d ∈ l, ∃ s, d = .str s) : leq l r = true := by
  subst e
  unfold leq
  rw [Bool.and_eq_true]
  refine ⟨by simp, ?_⟩
  rw [List.all_eq_true]
  intro p hp
  have : p.1 = p.2 := by
    obtain ⟨i, hi, e⟩ := List.mem_iff_getElem.mp hp
    rw [← e, List.getElem_zip]
  obtain ⟨s, e⟩ := h1 p.1 (List.of_mem_zip hp).1
  rw [← this, e]
  exact beq_self_eq_true s
end

end
section
set_option tactic.hygienic false
open MeetsSeq2 (wpAny_forIn_array)
open AutoSeq1 (wpAny_loadPart')
theorem tuple_indexAt (prog : Program) (w : World) (l : Addr) (items : Array Value) (n : Nat) (dd : Option Addr) (sl : Array (Option Value)) (x : Value) (e : Value → Bool) (j : Nat) (hj : j < items.size) (hit : e items[j] = true) (hno : ∀ m (hm : m < items.size), m < j → e items[m] = false) :
    MeetsIn prog w (Builtin.«tuple.index» ⟨[.ref l, x], []⟩)
      (fun A R s => s.heap.get? l = some { cls := .type "tuple", dict := dd, data := .seq items n, slots := sl } ∧ (∀ y, y ∈ items → EqAt A.in1 s y x (e y)) ∧ R (.ok (.ret (.int (j : Int) s.toks))) { s with toks := s.toks + 1 }) :=
  .of_wp fun A R s h => by
    obtain ⟨hp, g, d, tk, os⟩ := s; obtain ⟨hl, he, h⟩ := h
    unfold Builtin.«tuple.index»
    simp only [Std.Legacy.Range.forIn_eq_forIn_range']
    wp_walk using wpAny_loadPart' hl, wpAny_forIn_list _ (fun rest b s' => b.1 = none ∧ s' = ⟨hp, g, d, tk, os⟩ ∧ ∃ i, i ≤ j ∧ rest = List.range' i (items.size - i)) _
    case turn =>
      rintro i' rest ⟨b1, b2⟩ s' ⟨hb, rfl, i, hij, hr⟩
      simp only at hb
      subst hb
      have hlt : i < items.size := by one_sign
      have e1 : items.size - i = (items.size - (i + 1)) + 1 := by one_sign
      rw [e1, List.range'_succ] at hr
      obtain ⟨rfl, rfl⟩ := List.cons.inj hr
      have hi : items[i']? = some items[i'] := Array.getElem?_eq_getElem hlt
      rw [hi]
      refine wpAny_bind (he _ (Array.getElem_mem hlt) prog w _ _ ?_)
      by_cases z : i' = j
      · subst z
        rw [hit]
        wp_walk
        exact ⟨_, rfl, h⟩
      · rw [hno i' hlt (by one_sign)]
        wp_walk
        exact ⟨rfl, rfl, i' + 1, by one_sign, rfl⟩
    case fin =>
      rintro ⟨b1, b2⟩ s' ⟨hb, rfl, i, hij, hr⟩
      have := congrArg List.length hr
      simp at this
      one_sign
    case h =>
      refine ⟨rfl, rfl, 0, Nat.zero_le _, ?_⟩
      simp [Std.Legacy.Range.size]
section
variable {G : Gd} {n : Nat} {env : Env} {m : Loc} {H : Hp} {Q : D → Hp → Prop}
theorem Cal.tidx {a : Addr} {vs : List Value} {k j : Nat} {x : Str} (hk : G.K.lookup a = some ⟨.type "tuple", none, .seq vs.toArray k, #[]⟩) (hs : vs.all isS = true) (hj : (vs.map dOf)[j]? = some (.str x)) (hf : ∀ i, i < j → ∃ y, (vs.map dOf)[i]? = some (.str y) ∧ (y == x) = false) (hall : ∀ d ∈ vs.map dOf, ∃ y, d = .str y) (q : Q (.int j) H) : Cal G n H (.builtin "tuple.index") [.ref a, .str x] Q := fun s ws i B A T O S => by
  replace i := i.inv; obtain ⟨_, _, rfl, i, i'⟩ := i
  cases i' with | cons i' i'' =>
  (first | (replace i := i.inv; obtain rfl := i) | (replace i := i.inv; obtain ⟨_, rfl⟩ := i) | cases i); (first | (replace i'' := i''.inv; obtain rfl := i'') | (replace i'' := i''.inv; obtain ⟨_, rfl⟩ := i'') | cases i'')
  have t := S.keep _ _ (T.k _ _ hk)
  have iv : IsL s.heap vs (vs.map dOf) := isL_of hs
  obtain ⟨v, h1, h2⟩ := iv.get hj
  cases i' with | str _ tx =>
  have key : ∀ y, y ∈ vs → ∃ u, dOf y = .str u := fun y hy => hall _ (List.mem_map_of_mem hy)
  refine call_meetsIn PySem.F.slot_tuple_index ⟨_, t, rfl⟩ PySem.F.entry_tuple_index (PySem.F.args_tuple_index_2 _ _) (tuple_indexAt G.prog G.w a vs.toArray k none #[] (.str x tx) (fun y => match dOf y with | .str u => u == x | _ => false) j ?_ ?_ ?_) ⟨t, fun y hy => ?_, _, _, .int _ _, S, .tok, q⟩
  · simpa using (List.getElem?_eq_some_iff.mp h1).1
  · rw [List.getElem?_map] at hj
    have : vs[j]? = some v := h1
    rw [this] at hj
    have e : vs.toArray[j]'(by simpa using (List.getElem?_eq_some_iff.mp h1).1) = v := by simpa using (List.getElem?_eq_some_iff.mp h1).2
    simp only [e]
    have : dOf v = .str x := by simpa using hj
    rw [this]; simp
  · intro i hi hij
    obtain ⟨y, e1, e2⟩ := hf i hij
    have hi' : i < vs.length := by simpa using hi
    rw [List.getElem?_map, List.getElem?_eq_getElem hi'] at e1
    have : dOf vs[i] = .str y := by simpa using e1
    simp only [List.getElem_toArray, this]; exact e2
  · obtain ⟨u, e⟩ := key y (by simpa using hy)
    have hy' : y ∈ vs := by simpa using hy
    have iy : Is s.heap y (.str u) := by
      have hb : isS y = true := List.all_eq_true.mp hs y hy'
      cases y <;> first | (cases e; done) | (cases e; exact .str _ _)
    rw [e]
    exact EqAt.sc iy (.str x tx) rfl
theorem top_there {a : Addr} {o : Obj} (hk : G.K.lookup a = some o) {T : String} (h1 : o.cls = .type T) (h2 : o.dict = none) {H' : Hp} : ∀ B h, TopOk G B → Sat G B H' h → ∃ ob, h.get? a = some ob ∧ ob.cls = .type T ∧ ob.dict = none := fun B h T S => ⟨o, S.keep _ _ (T.k _ _ hk), h1, h2⟩
theorem Cal.pop0 {a : Addr} {l : List D} {d : D} (h : H a = some (.lst (d :: l))) (hz : l.length < sizeLine) (q : Q d (H.set a (.lst l))) : Cal G n H (.builtin "list.pop") [.ref a, .int 0] Q := fun s vs i B A T O S => by
  replace i := i.inv; obtain ⟨_, _, rfl, i, j⟩ := i
  replace j := j.inv; obtain ⟨_, _, rfl, j, j'⟩ := j
  (first | (replace i := i.inv; obtain rfl := i) | (replace i := i.inv; obtain ⟨_, rfl⟩ := i) | cases i); (first | (replace j' := j'.inv; obtain rfl := j') | (replace j' := j'.inv; obtain ⟨_, rfl⟩ := j') | cases j')
  replace j := j.inv; obtain ⟨u, rfl⟩ := j
  obtain ⟨_, vs, ⟨k, t⟩, i⟩ := S.own _ _ h
  cases i with | @cons v _ vs' _ i0 i =>
  refine call_meets PySem.F.slot_list_pop ⟨_, t, rfl⟩ PySem.F.entry_list_pop (PySem.F.args_list_pop_2 _ _) (PySem.MeetsSeq.list_pop_at a (v :: vs').toArray k 0 u 0 v (by decide +kernel) ?_ rfl (by rw [List.size_toArray, List.length_cons, i.length]; exact hz)) ⟨t, ?_⟩
  · unfold seqIndex?
    simp
  have hs : Heap.SameBut a s.heap (s.heap.update a (Obj.mapSeq fun xs => xs.eraseIdxIfInBounds 0)) := Heap.SameBut.update ..
  have kp := S.tupBut h hs
  have P : (s.heap.update a (Obj.mapSeq fun xs => xs.eraseIdxIfInBounds 0)).PlainList a ((v :: vs').toArray.eraseIdxIfInBounds 0) := ⟨_, Heap.get?_update_self _ t rfl⟩
  have e : (v :: vs').toArray.eraseIdxIfInBounds 0 = vs'.toArray := by
    rw [← Array.toList_inj, Array.toList_eraseIdxIfInBounds]; rfl
  rw [e] at P
  exact ⟨_, _, i0.mono kp, S.upd (x' := .lst l) h hs ⟨vs', P, i.mono kp⟩, .hp kp, q⟩
end

end
section
set_option tactic.hygienic false
open Sem (wp)
theorem mro_dict : mroOf (.type "dict") = pure [.type "dict", .type "object"] := by rw [mroOf_type]; kernel_rfl
theorem lookup_dict_new : typeLookup (.type "dict") "__new__" = pure (some (.builtin "dict.__new__")) := by rw [typeLookup_type, builtinLookup_eq_fast]; kernel_rfl
theorem called_dict : TypeCalled "dict" "dict.__new__" "dict.__init__" :=
  ⟨by decide +kernel, by decide +kernel, ⟨_, _, mro_dict⟩, madeBy_type mro_dict lookup_dict_new (by decide +kernel), by decide +kernel, by rw [isSubtype_type]; kernel_rfl, PySem.F.slot_dict_init⟩
theorem typeCall_dict_1 (a : Value) : checkTypeCall "dict" ⟨[a], []⟩ = pure () := by kernel_rfl
theorem newCall_dict_1 (a : Value) : checkBuiltinCall "dict.__new__" ⟨[.type "dict", a], []⟩ = pure () := by kernel_rfl
theorem entry_dict_new : entryFor table "dict.__new__" = some Builtin.«dict.__new__» := entryFor_of_tree (by kernel_rfl)
theorem plain_dict_new : plainId "dict.__new__" = true := by decide +kernel
theorem entry_dict_loop : entryFor table "dict.update.loop" = some Builtin.«dict.update.loop» := entryFor_of_tree (by kernel_rfl)
theorem plain_dict_loop : plainId "dict.update.loop" = true := by decide +kernel
theorem sub_dict_self : isSubtype (.type "dict") (.type "dict") = pure true := by rw [isSubtype_type]; kernel_rfl
theorem list_no_keys : typeLookup (.type "list") "keys" = pure none := am_miss_of_fast (by decide +kernel)
section
variable {prog : Program} {w : World} {A : Around} {E : Value → Shared → Prop} {s : Shared}
theorem code_dict_new (a : Value) {Q₁ : Value → Shared → Prop}
    (h : Q₁ (.ref s.heap.objs.size) { s with heap := s.heap.push { cls := .type "dict", data := .dict #[] } }) :
    codeAny (model prog w) A (.call (.builtin "dict.__new__") ⟨[.type "dict", a], []⟩) (wants Q₁ E) s := by
  refine codeAny_of_tree ?_
  show wpAny _ A.in1 (do checkBuiltinCall "dict.__new__" ⟨[.type "dict", a], []⟩; again (.builtin "dict.__new__" ⟨[.type "dict", a], []⟩)) _ _ s
  refine wpAny_bind (wpAny_of_eq (newCall_dict_1 a) (wpAny_pure ⟨plainId_quiet plain_dict_new _, codeAny_builtin entry_dict_new ?_⟩))
  rw [Around.under_plainId plain_dict_new _]
  unfold Builtin.«dict.__new__»
  have hsub := sub_dict_self
  have hm := mro_dict
  obtain ⟨hp, g, d, tk, os⟩ := s
  wp_walk
  exact h
theorem getAttrQ_miss_list {a : Addr} {o : Obj} {xs : Array Value} {k : Nat} {name : Str} {Q : Option Value → Shared → Prop}
    (hx : s.heap.get? a = some o) (hc : o.cls = .type "list") (hdat : o.data = .seq xs k) (hd : o.dict = none) (hmiss : typeLookup (.type "list") name = pure none) (hname : (["__module__", "__name__", "__qualname__", "__doc__", "__annotations__"] : List Str).contains name = false) (hA : A.handled = none)
    (h : ∀ h' tk, (∀ b o, s.heap.get? b = some o → h'.get? b = some o) → Q none { s with heap := h', toks := tk }) (hsz : name.length + 100 ≤ sizeLine := by size_fits) :
    wpAny (model prog w) A (getAttr? (.ref a) name) Q E s := by
  obtain ⟨c, dct, dat, sl⟩ := o
  simp only at hc hdat hd
  subst hc hdat hd
  obtain ⟨hp, g, d, tk, os⟩ := s
  have hT : ∀ tk', (⟨hp, g, d, tk', os⟩ : Shared).TypeIs (.ref a) "list" := fun _ => ⟨_, hx, rfl⟩
  have f1 := sub_AttributeError
  have f3 := PySem.F.slot_list_getattribute.lookup
  have f4 := PySem.F.slot_list_getattribute.bind (.ref a)
  have f5 := am_list_getattr_none
  unfold getAttr? getAttrBy? getAttrBy
  repeat (any_goals (first | assumption | exact hT _ | ((with_reducible show wpAny _ _ (call (Value.builtin "list.__getattribute__") _ _) _ _ _); refine call_meets PySem.F.slot_list_getattribute (hT _) am_entry_list_getattribute (PySem.F.args_list_getattribute_2 _ _) (meets_getattribute_miss_list a xs k sl name _ hmiss hname hsz) ⟨hx, hA, fun h' tk' e hx' => ?_⟩) | wp_step))
  obtain ⟨t', u', he⟩ := hx'.there
  show wpAny _ _ (getattributeRaised _ _ _ _ _ _ _) _ _ _
  unfold getattributeRaised
  repeat (any_goals (first | assumption | wp_step))
  exact h _ _ hx'.keeps
end

end
section
set_option tactic.hygienic false
theorem Ok.in1 {A : Around} {n : Nat} (O : Ok A (n + 1)) : Ok A.in1 n := ⟨O.handled, by have := O.depth; show A.depth + n < _; one_sign, by have := O.units; show A.units + 1 + 20 * n < _; one_sign⟩
noncomputable def putAll (ps : List (Ky × D)) (acc : List (D × D)) : List (D × D) := ps.foldl (fun a p => kput p.1 p.2 a) acc
section
variable {G : Gd} {n : Nat} {H : Hp} {Q : D → Hp → Prop}
noncomputable def pairD (p : Ky × D) : D := .tup [kd p.1, p.2]
theorem dict_loop {d it l : Addr} {ps : List (Ky × D)} {B : Heap} (T : TopOk G B) (hdi : d ≠ it) (hdl : d ≠ l) (hli : l ≠ it) (hps : ps.length ≤ 1000) : ∀ (j i : Nat) {acc : List (D × D)} {H : Hp} {A : Around} {s : Shared} {R : Result → Shared → Prop}, i + j = ps.length → H d = some (.dct acc) → H l = some (.lst (ps.map pairD)) → H it = none → knodB acc = true → acc.length + j ≤ 1000 → Ok A 2 → Sat G B (H.set it (litX l i)) s.heap →
    (∀ s', Sat G B (H.set d (.dct (putAll (ps.drop i) acc))) s'.heap → Step s s' → R (.ok (.ret .none)) s') → codeAny (model G.prog G.w) A (.builtin "dict.update.loop" ⟨[.ref d, .ref it, rawInt i, .none], []⟩) R s := by
  intro j
  induction j with
  | zero =>
    intro i acc H A s R hj hd hl hit hn hz O S q
    obtain ⟨o, h1, _, h2, h3⟩ := raw_at S (Hp.set_self ..)
    obtain ⟨_, vs, t, ii⟩ := S.own l _ ((Hp.set_ne _ _ hli).trans hl)
    refine codeAny_builtin entry_dict_loop ?_
    rw [Around.under_plainId plain_dict_loop _]
    unfold Builtin.«dict.update.loop»
    show wpAny _ _ (pyNext (.ref it) >>= _) _ _ s
    refine wpAny_bind (wpAny_pyNext_list_end O.handled (i := i) ⟨o, h1, h2, h3⟩ t.isList (by
      have := ii.length
      rw [List.length_map] at this
      simp; one_sign) fun h' he => ?_)
    obtain ⟨S', kp⟩ := S.dropBut hit he
    show wpAny _ _ (Builtin.Dict.addKeywords d [] >>= _) _ _ _
    refine wpAny_bind (wpAny_pure (wpAny_pure ?_))
    rw [List.drop_of_length_le (by one_sign)] at q
    refine q _ ?_ (.hp kp)
    show Sat G B (H.set d (.dct acc)) h'
    rw [Hp.set_same H hd]; exact S'
  | succ j ih =>
    intro i acc H A s R hj hd hl hit hn hz O S q
    obtain ⟨o, h1, _, h2, h3⟩ := raw_at S (Hp.set_self ..)
    obtain ⟨_, vs, t, ii⟩ := S.own l _ ((Hp.set_ne _ _ hli).trans hl)
    have hi : i < ps.length := by one_sign
    obtain ⟨v, hv, iv⟩ := ii.get (i := i) (d := pairD ps[i]) (by rw [List.getElem?_map, List.getElem?_eq_getElem hi]; rfl)
    refine codeAny_builtin entry_dict_loop ?_
    rw [Around.under_plainId plain_dict_loop _]
    unfold Builtin.«dict.update.loop»
    show wpAny _ _ (pyNext (.ref it) >>= _) _ _ s
    refine wpAny_bind (wpAny_pyNext_list_item (i := i) ⟨o, h1, h2, h3⟩ t.isList (by simpa using hv) fun h' hr hs => ?_)
    have kp := S.tupBut (Hp.set_self ..) hs
    have z := S.upd (x' := litX l (i + 1)) (Hp.set_self ..) hs (by
      obtain ⟨o', a, b, c⟩ := hr
      exact ⟨o', a, by unfold imm; rw [c, b]; exact (by decide : (Value.type "list_iterator" == Value.type "range") = false), b, c⟩)
    rw [Hp.set_set] at z
    replace iv := iv.mono kp
    obtain ⟨ta, ts, rfl, tt, ti⟩ := iv.inv
    obtain ⟨kv, r1, rfl, ik, ti⟩ := ti.inv
    obtain ⟨dv, r2, rfl, idv, ti⟩ := ti.inv
    obtain rfl := ti.inv
    refine wpAny_bind (wpAny_holding (wpAny_bind (wpAny_tryCatch ?_)))
    obtain ⟨to, t1, t2, tn, t3⟩ := tt
    unfold Builtin.Dict.pairItems
    refine wpAny_bind (wpAny_typeOf (T := "tuple") ⟨to, t1, t2⟩ ?_)
    rw [if_pos (by decide)]
    refine wpAny_bind (wpAny_seqItems t1 t3 (wpAny_pure ?_))
    show wpAny _ _ (holding [kv, dv] (dictSet d kv dv)) _ _ _
    obtain ⟨od, es, c, g1, g2, g3, g4⟩ := (z.own d _ ((Hp.set_ne _ _ hdi).trans hd)).2
    obtain ⟨kvs, p, b⟩ := g4.kv (prog := G.prog)
    refine wpAny_holding (wpAny_dictSet_pairs (knd := mx G.prog G.w) (kvs := kvs) (is_kis ik) ⟨od, es.toArray, c, g1, g2, g3, fun e he => g4.keysOf (prog := G.prog) e (by simpa using he), by simpa using p, b.nodup hn⟩ ?_ (by rw [b.length, sizeLine_eq]; one_sign))
    rintro h'' ⟨o', es', c', q1, q2, q3, q4, q5, q6⟩ hs2
    have hd' : (H.set it (litX l (i + 1))) d = some (.dct acc) := (Hp.set_ne _ _ hdi).trans hd
    have kp2 := z.tupBut hd' hs2
    have z2 := z.upd (x' := .dct (kput ps[i].1 ps[i].2 acc)) hd' hs2 ⟨o', es'.toList, c', q1, q2, by simpa using q3, KvL.ent (fun e he => q4 e (by simpa using he)) q5 ((b.mono kp2).stored (idv.mono kp2) hn)⟩
    rw [Hp.set_comm _ _ _ (Ne.symm hdi)] at z2
    refine wpAny_pure ⟨plainId_quiet plain_dict_loop _, ?_⟩
    have hl2 : (H.set d (.dct (kput ps[i].1 ps[i].2 acc))) l = some (.lst (ps.map pairD)) := (Hp.set_ne _ _ (Ne.symm hdl)).trans hl
    have hit2 : (H.set d (.dct (kput ps[i].1 ps[i].2 acc))) it = none := (Hp.set_ne _ _ (Ne.symm hdi)).trans hit
    refine ih (i + 1) (by one_sign) (Hp.set_self ..) hl2 hit2 (knodB_kput hn) (by have := kput_len (k := ps[i].1) (d := ps[i].2) acc; one_sign) O z2 fun s' S' st' => ?_
    rw [Hp.set_set] at S'
    rw [List.drop_eq_getElem_cons hi] at q
    exact q s' S' ((Step.mk' (kp.trans kp2)).trans st')
end

end
section
set_option tactic.hygienic false
section
variable {G : Gd} {n : Nat} {H : Hp} {Q : D → Hp → Prop}
theorem Cal.dictL {l : Addr} {ps : List (Ky × D)} (hl : H l = some (.lst (ps.map pairD))) (hz : ps.length ≤ 1000) (q : ∀ d, H d = none → Q (.ref d) (H.set d (.dct (putAll ps [])))) : Cal G (n + 4) H (.type "dict") [.ref l] Q := fun s vs i B A T O S => by
  replace i := i.inv; obtain ⟨_, _, rfl, i, j⟩ := i
  obtain rfl := i.inv
  obtain rfl := j.inv
  refine callType_codes (Q₁ := fun obj s₁ => obj = .ref s.heap.objs.size ∧ s₁ = { s with heap := s.heap.push { cls := .type "dict", data := .dict #[] } }) called_dict (typeCall_dict_1 _) PySem.F.entry_dict_init (code_dict_new _ ⟨rfl, rfl⟩) ?_
  rintro obj s₁ ⟨rfl, rfl⟩
  have kp0 := push_keeps s.heap { cls := .type "dict", data := .dict #[] }
  have hd0 := S.fresh (Nat.le_refl _)
  have hnew : (s.heap.push { cls := .type "dict", data := .dict #[] }).DictOf (mx G.prog G.w) s.heap.objs.size [] := Heap.DictOf.new s.heap
  have S1 : Sat G B (H.set s.heap.objs.size (.dct [])) (s.heap.push { cls := .type "dict", data := .dict #[] }) := S.new kp0 (Nat.le_refl _) ⟨_, [], 0, Heap.get?_push_size _ rfl, ⟨rfl, rfl, rfl⟩, rfl, .nil⟩
  have hdl : s.heap.objs.size ≠ l := fun e => by rw [e, hl] at hd0; cases hd0
  refine ⟨hnew.typeIs, PySem.F.args_dict_init_2 _ _, ?_⟩
  unfold Builtin.«dict.__init__»
  refine wpAny_bind ?_
  unfold Builtin.Dict.selfAndRest
  refine wpAny_bind (wpAny_notOrdered_dict hnew.typeIs ?_)
  show wpAny _ _ (pure (s.heap.objs.size, [Value.ref l])) _ _ _
  refine wpAny_pure ?_
  show wpAny _ _ (Builtin.Dict.updateFrom "dict.__init__" s.heap.objs.size (.ref l) [] .none) _ _ _
  unfold Builtin.Dict.updateFrom
  obtain ⟨_, vs, t, ii⟩ := S1.own l _ ((Hp.set_ne _ _ (Ne.symm hdl)).trans hl)
  obtain ⟨tn, t1⟩ := id t
  refine wpAny_bind (wpAny_typeOf t.isList.typeIs ?_)
  rw [if_pos (by decide)]
  refine wpAny_bind (getAttrQ_miss_list t1 rfl rfl rfl list_no_keys (by decide) O.handled fun h2 tk2 kp2 => ?_)
  have S2 := S1.keeps kp2
  show wpAny _ _ (rule _ >>= _) _ _ _
  refine wpAny_bind (wpAny_rule ?_)
  obtain ⟨_, vs', t', ii'⟩ := S2.own l _ ((Hp.set_ne _ _ (Ne.symm hdl)).trans hl)
  refine wpAny_bind (wpAny_pyIter_list t'.isList ?_)
  have kp3 := push_keeps h2 { cls := .type "list_iterator", data := .fields #[.ref l, .int 0 0] }
  have hf := S2.fresh (Nat.le_refl _)
  have S3 := S2.new (x := litX l 0) kp3 (Nat.le_refl _) ⟨_, Heap.get?_push_size _ rfl, rfl, rfl, rfl⟩
  refine wpAny_pure ⟨plainId_quiet plain_dict_loop _, ?_⟩
  have hli : l ≠ h2.objs.size := fun e => by rw [← e, (Hp.set_ne _ _ (Ne.symm hdl)).trans hl] at hf; cases hf
  have hdi : s.heap.objs.size ≠ h2.objs.size := fun e => by rw [← e, Hp.set_self] at hf; cases hf
  refine dict_loop T hdi hdl hli hz ps.length 0 (Nat.zero_add _) (Hp.set_self ..) ((Hp.set_ne _ _ (Ne.symm hdl)).trans hl) hf rfl (by simpa using hz) (O.le (k := 3) (by one_sign)).in1 S3 fun s' S' st' => ?_
  rw [Hp.set_set] at S'
  exact ⟨rfl, _, _, .ref _, S', (Step.mk' (t := tk2) ((TupKeep.keeps kp0).trans ((TupKeep.keeps kp2).trans (TupKeep.keeps kp3)))).trans st', q _ hd0⟩
end

end
section
set_option tactic.hygienic false
noncomputable def mergeD (l r : List (D × D)) : List (D × D) := r.foldl (fun a p => match kOf p.1 with | some k => kput k p.2 a | none => a) l
theorem KvL.merged {h : Heap} : ∀ {more : List (Ky × Value)} {r : List (D × D)} {kvs : List (Ky × Value)} {l : List (D × D)}, KvL h more r → KvL h kvs l → knodB l = true → KvL h (PySem.merged kvs more) (mergeD l r)
  | _, _, _, _, .nil, b, _ => b
  | _, _, kvs, l, .cons (k := k) (v := v) (d := d) i r, b, z => by
    unfold mergeD
    rw [List.foldl_cons, kOf_kd]
    have := KvL.merged r (b.stored (k := k) i z) (knodB_kput (k := k) z)
    unfold mergeD PySem.merged at this
    unfold PySem.merged
    exact this
noncomputable def pinX (P : Params) (l : List (D × D)) (ep : Nat) : X := .raw (fun h o => o.ExactDict ∧ ∃ es : List DictEntry, o.data = .dict es.toArray ep ∧ Ent P h es l) fun h h' o k ⟨a, es, b, c⟩ => ⟨a, es, b, c.mono k⟩
noncomputable def kitX (d : Addr) (k n ep : Nat) : X := .raw (fun _ o => o.cls = .type "dict_keyiterator" ∧ o.data = .fields #[.ref d, .int k 0, .int n 0, .int ep 0]) fun _ _ _ _ a => a
section
variable {G : Gd} {n : Nat} {H : Hp} {Q : D → Hp → Prop} {env : Env} {m : Loc}
theorem Cal.dupd {a o : Addr} {l r : List (D × D)} (ha : H a = some (.dct l)) (ho : H o = some (.dct r)) (hne : a ≠ o) (z1 : knodB l = true) (z2 : knodB r = true) (hz : l.length + r.length ≤ 1000) (q : Q .none (H.set a (.dct (mergeD l r)))) :
    Cal G n H (.builtin "dict.update") [.ref a, .ref o] Q := fun s vs i B A T O S => by
  replace i := i.inv; obtain ⟨_, _, rfl, i, j⟩ := i
  replace j := j.inv; obtain ⟨_, _, rfl, j, j'⟩ := j
  obtain rfl := i.inv
  obtain rfl := j.inv
  obtain rfl := j'.inv
  obtain ⟨o1, es1, c1, a1, a2, a3, a4⟩ := (S.own _ _ ha).2
  obtain ⟨o2, es2, c2, b1, b2, b3, b4⟩ := (S.own _ _ ho).2
  obtain ⟨kvs, p, b⟩ := a4.kv (prog := G.prog)
  obtain ⟨more, p', b'⟩ := b4.kv (prog := G.prog)
  have hD : s.heap.DictOf (mx G.prog G.w) a kvs := ⟨o1, es1.toArray, c1, a1, a2, a3, fun e he => a4.keysOf (prog := G.prog) e (by simpa using he), by simpa using p, b.nodup z1⟩
  have hD2 : s.heap.DictOf (mx G.prog G.w) o more := ⟨o2, es2.toArray, c2, b1, b2, b3, fun e he => b4.keysOf (prog := G.prog) e (by simpa using he), by simpa using p', b'.nodup z2⟩
  refine call_meetsIn PySem.F.slot_dict_update hD.typeIs PySem.F.entry_dict_update (PySem.F.args_dict_update_2 _ _) (meets_dict_update (mx G.prog G.w) a o hne (S.off _ _ ho)) ⟨kvs, more, hD, hD2, by rw [b.length, b'.length, sizeLine_eq]; one_sign, ?_⟩
  rintro h' ⟨o', es', c', g1, g2, g3, g4, g5, g6⟩ _ hs
  have kp := S.tupBut ha hs
  exact ⟨.none, _, .none, S.upd (x' := .dct (mergeD l r)) ha hs ⟨o', es'.toList, c', g1, g2, by simpa using g3, KvL.ent (fun e he => g4 e (by simpa using he)) g5 ((b'.mono kp).merged (b.mono kp) z1)⟩, .hp kp, q⟩
theorem Sat.pin {B : Heap} {h : Heap} {d : Addr} {l : List (D × D)} (S : Sat G B H h) (hd : H d = some (.dct l)) : ∃ ep, Sat G B (H.set d (pinX G.w.params l ep)) h := by
  obtain ⟨o, es, c, h1, h2, h3, h4⟩ := (S.own _ _ hd).2
  refine ⟨c, S.keep, fun a x e => ?_, S.low, fun a x e => ?_⟩
  · by_cases z : a = d
    · subst z; rw [Hp.set_self] at e; cases e
      exact ⟨(S.own _ _ hd).1, o, h1, by unfold imm; rw [h3], h2, es, h3, h4⟩
    · rw [Hp.set_ne _ _ z] at e; exact S.own a x e
  · by_cases z : a = d
    · subst z; exact S.off _ _ hd
    · rw [Hp.set_ne _ _ z] at e; exact S.off a x e
theorem Sat.unpin {B : Heap} {h : Heap} {d : Addr} {l : List (D × D)} {ep : Nat} (S : Sat G B H h) (hd : H d = some (pinX G.w.params l ep)) : Sat G B (H.set d (.dct l)) h := by
  obtain ⟨o, h1, h2, h3, es, h4, h5⟩ := (S.own _ _ hd).2
  refine ⟨S.keep, fun a x e => ?_, S.low, fun a x e => ?_⟩
  · by_cases z : a = d
    · subst z; rw [Hp.set_self] at e; cases e
      exact ⟨(S.own _ _ hd).1, o, es, ep, h1, h3, h4, h5⟩
    · rw [Hp.set_ne _ _ z] at e; exact S.own a x e
  · by_cases z : a = d
    · subst z; exact S.off _ _ hd
    · rw [Hp.set_ne _ _ z] at e; exact S.off a x e
theorem Ex.unpin {d : Addr} {l : List (D × D)} {ep : Nat} {ss : List Stmt} {QF : Fl → Loc → Hp → Prop} (hd : H d = some (pinX G.w.params l ep)) (h : Ex G n env m (H.set d (.dct l)) ss QF) : Ex G n env m H ss QF := fun s hL B A T O S => by
  have ne : d ≠ env.locals := fun z => by rw [z, hL] at hd; cases hd
  have S' := S.unpin ((Hp.set_ne _ _ ne).trans hd)
  rw [Hp.set_comm _ _ _ (Ne.symm ne)] at S'
  exact h s ((Hp.set_ne _ _ (Ne.symm ne)).trans hL) B A T O S'
theorem Ent.dictAt {B : Heap} {h : Heap} {d : Addr} {l : List (D × D)} {ep : Nat} (S : Sat G B H h) (hd : H d = some (pinX G.w.params l ep)) (z : knodB l = true) : ∃ kvs, h.DictAt (mx G.prog G.w) d kvs ep ∧ KvL h kvs l := by
  obtain ⟨o, h1, h2, h3, es, h4, h5⟩ := (S.own _ _ hd).2
  obtain ⟨kvs, p, b⟩ := h5.kv (prog := G.prog)
  exact ⟨kvs, ⟨o, es.toArray, h1, h3, h4, fun e he => h5.keysOf (prog := G.prog) e (by simpa using he), by simpa using p, b.nodup z⟩, b⟩
theorem KvL.at {h : Heap} : ∀ {kvs : List (Ky × Value)} {l : List (D × D)}, KvL h kvs l → ∀ {i : Nat} {d : D}, (l.map (·.1))[i]? = some d → ∃ k v, kvs[i]? = some (k, v) ∧ d = kd k
  | _, _, .nil, _, _, e => by simp at e
  | _, _, .cons (k := k) _ r, 0, _, e => ⟨k, _, rfl, by simpa using e.symm⟩
  | _, _, .cons _ r, i + 1, _, e => by simpa using r.at (i := i) (by simpa using e)
noncomputable def srcD (it d : Addr) (l : List (D × D)) (ep : Nat) (z : knodB l = true) : Src G :=
  Src.one it isTgt (l.map (·.1)) (fun k => kitX d k l.length ep) (fun H => H d = some (pinX G.w.params l ep)) (fun {H a x} ha h => by
      have ne : d ≠ a := fun z => by subst z; rw [ha] at h; cases h
      rw [Hp.set_ne _ _ ne]; exact h)
    (by
      intro target k d' H B A s ht hi hf hl T O S
      have ne : d ≠ it := fun z => by subst z; rw [hf] at hl; cases hl
      obtain ⟨o, h1, _, h2, h3⟩ := raw_at S (Hp.set_self ..)
      obtain ⟨kvs, hD, b⟩ := Ent.dictAt S ((Hp.set_ne _ _ ne).trans hl) z
      obtain ⟨ky, v, e1, rfl⟩ := b.at hi
      refine wpAny_pyNext_dict_item (i := k) ⟨o, h1, h2, by rw [b.length]; exact h3⟩ hD e1 fun key h' hkey hr hs => ⟨_, rfl, ?_⟩
      have kp := S.tupBut (Hp.set_self ..) hs
      have z := S.upd (x' := kitX d (k + 1) l.length ep) (Hp.set_self ..) hs (by
        obtain ⟨o', a, b', c⟩ := hr
        rw [b.length] at c
        exact ⟨o', a, by unfold imm; rw [c, b']; exact (by decide : (Value.type "dict_keyiterator" == Value.type "range") = false), b', c⟩)
      rw [Hp.set_set] at z
      exact letGo_keyiter hr ⟨kis_is hkey, z, .hp kp⟩)
    (by
      intro k H B A s hk hf hl T O S
      have ne : d ≠ it := fun z => by subst z; rw [hf] at hl; cases hl
      obtain ⟨o, h1, _, h2, h3⟩ := raw_at S (Hp.set_self ..)
      obtain ⟨kvs, hD, b⟩ := Ent.dictAt S ((Hp.set_ne _ _ ne).trans hl) z
      refine wpAny_pyNext_dict_end O.handled (i := k) ⟨o, h1, h2, by rw [b.length]; exact h3⟩ hD (by
        have := b.length
        rw [List.length_map] at hk
        rw [List.getElem?_eq_none_iff]; one_sign) fun h' he => ?_
      obtain ⟨S', kp⟩ := S.dropBut hf he
      exact ⟨rfl, S', .hp kp⟩)
    (by
      intro k H B A s S
      obtain ⟨o, h1, _, h2, h3⟩ := raw_at S (Hp.set_self ..)
      exact wpAny_pyIter_keyiter (i := k) ⟨o, h1, h2, h3⟩ ⟨rfl, rfl⟩)
theorem Itr.dict {d : Addr} {l : List (D × D)} {ep : Nat} (hl : H d = some (pinX G.w.params l ep)) (z : knodB l = true) : Itr G n H (.ref d) isTgt H (l.map (·.1)) fun H => H d = some (pinX G.w.params l ep) := by
  intro s v i B A T O S
  obtain rfl := i.inv
  obtain ⟨kvs, hD, b⟩ := Ent.dictAt S hl z
  refine wpAny_pyIter_dict (S.off _ _ hl) hD ?_
  have kp := push_keeps s.heap { cls := .type "dict_keyiterator", data := .fields #[.ref d, .int 0 0, .int kvs.length 0, .int ep 0] }
  have hf := S.fresh (Nat.le_refl _)
  refine ⟨srcD s.heap.objs.size d l ep z, _, rfl, ?_, .hp (.keeps kp), rfl, rfl, rfl, hf, rfl⟩
  exact S.new (x := kitX d 0 l.length ep) kp (Nat.le_refl _) ⟨_, Heap.get?_push_size _ rfl, rfl, rfl, by rw [b.length]; rfl⟩
end

end
section
set_option tactic.hygienic false
section
variable {G : Gd} {n : Nat} {H : Hp} {env : Env} {m : Loc}
theorem Got.cut {L : Addr} {x : X} {Q : D → Prop} {B : Heap} {s s' : Shared} {v : Value} (h : Got Is G B s (FrQ L x fun d' H' => Sub H H' ∧ Q d') v s') (hL : H L = none) : Got Is G B s (FrQ L x fun d' H' => H' = H ∧ Q d') v s' := by
  obtain ⟨d', _, a, b, c, H'', rfl, hL', q, e⟩ := h
  refine ⟨d', _, a, b.forget fun y z w => ?_, c, H, rfl, hL, rfl, e⟩
  by_cases e : y = L
  · subst e; rw [Hp.set_self] at w ⊢; exact w
  · rw [Hp.set_ne _ _ e] at w ⊢; exact q y z w
theorem Ev.forget {e : Expr} {Q : D → Prop} (h : Ev G n env m H e fun d' H' => Sub H H' ∧ Q d') : Ev G n env m H e fun d' H' => H' = H ∧ Q d' := fun s hL B A T O S => wpAny_mono (h s hL B A T O S) (fun _ _ g => g.cut hL) fun _ _ z => z
theorem Ev.p {e : Expr} {d : D} (h : Ev G n env m H e fun d' H' => Sub H H' ∧ d' = d) : EvP G n env m H e d := ⟨(Ev.forget h).mono fun _ _ ⟨a, b⟩ => ⟨b, a⟩⟩
end

end
section
set_option tactic.hygienic false
section
variable {G : Gd} {n : Nat} {H : Hp} {env : Env} {m : Loc}
theorem Got.cutB {L : Addr} {x : X} {Q : Bool → Prop} {B : Heap} {s s' : Shared} {v : Bool} (h : Got Same G B s (FrQ L x fun d' H' => Sub H H' ∧ Q d') v s') (hL : H L = none) : Got Same G B s (FrQ L x fun d' H' => H' = H ∧ Q d') v s' := by
  obtain ⟨d', _, a, b, c, H'', rfl, hL', q, e⟩ := h
  refine ⟨d', _, a, b.forget fun y z w => ?_, c, H, rfl, hL, rfl, e⟩
  by_cases e : y = L
  · subst e; rw [Hp.set_self] at w ⊢; exact w
  · rw [Hp.set_ne _ _ e] at w ⊢; exact q y z w
theorem EvB.p {e : Expr} {b : Bool} (h : EvB G n env m H e fun b' H' => Sub H H' ∧ b' = b) : EvPB G n env m H e b := ⟨fun s hL B A T O S => wpAny_mono (h s hL B A T O S) (fun _ _ g => by
  obtain ⟨d', _, a, b, c, H'', e, hL', q, r⟩ := g.cutB (Q := fun b' => b' = b) hL
  exact ⟨d', _, a, b, c, H'', e, hL', r, q⟩) fun _ _ z => z⟩
theorem zip_nil_dk {l : List D} : ((l.zip []).all fun p => dk p.1 p.2) = true := by rw [List.zip_nil_right]; rfl
theorem leq_nil (l : List D) : leq l [] = l.isEmpty := by cases l <;> rfl
theorem EvPB.neNil {x p2 p3 a} {l : List D} (hx : EvP G n env m H x (.ref a)) (ha : H a = some (.lst l)) (hn : 1 ≤ n) : EvPB G n env m H (.Compare x [.NotEq] [.List [] p2] p3) (!l.isEmpty) :=
  EvB.p (EvB.cmp (hx.to (Ev.lst (EvL.nil ⟨Nat.le_of_ble_eq_true rfl, fun e he _ => Cmp.neL (Hp.keep he ha) (Hp.set_self ..) (Tru.bool ⟨Sub.set he, by rw [leq_nil]⟩) zip_nil_dk hn⟩))))
theorem EvP.neNil {x p2 p3 a} {l : List D} (hx : EvP G n env m H x (.ref a)) (ha : H a = some (.lst l)) (hn : 1 ≤ n) : EvP G n env m H (.Compare x [.NotEq] [.List [] p2] p3) (.bool (!l.isEmpty)) :=
  Ev.p (Ev.cmp (hx.to (Ev.lst (EvL.nil ⟨Nat.le_of_ble_eq_true rfl, fun e he _ => Cmp.neL (Hp.keep he ha) (Hp.set_self ..) ⟨Sub.set he, by rw [leq_nil]⟩ zip_nil_dk hn⟩))))
theorem Ev.eqNil {e : Expr} {p2 p3} {Q : D → Hp → Prop} (h : Ev G n env m H e fun d H1 => ∃ a l, d = .ref a ∧ H1 a = some (.lst l) ∧ ∀ H2, Sub H1 H2 → Q (.bool l.isEmpty) H2) (hn : 1 ≤ n) : Ev G n env m H (.Compare e [.Eq] [.List [] p2] p3) Q :=
  Ev.cmp (h.mono fun d H1 ⟨a, l, e1, ha, q⟩ => by subst e1; exact Ev.lst (EvL.nil ⟨Nat.le_of_ble_eq_true rfl, fun e he _ => Cmp.eqL (Hp.keep he ha) (Hp.set_self ..) (by rw [leq_nil]; exact q _ (Sub.set he)) zip_nil_dk hn⟩))
theorem ItemP.last {a : Addr} {l : List D} {d : D} (ha : H a = some (.lst l)) (hd : l.getLast? = some d) (hz : l.length < 2 ^ 62) : ItemP G n H (.ref a) (.int (-1)) d := by
  have hne : l ≠ [] := by rintro rfl; cases hd
  have hp := List.length_pos_iff.mpr hne
  exact ⟨Item.lstN (LstAt.own ha) (by decide) (by one_sign) (by
    rw [List.getLast?_eq_getElem?] at hd
    rw [show (-1 + (l.length : Int)).toNat = l.length - 1 by one_sign]; exact hd) hz ⟨rfl, rfl⟩⟩
end

end
section
set_option tactic.hygienic false
-- sets of ints kept as keys
structure Keys (l : List (D × D)) (S : Nat → Prop) : Prop where
  nod : knodB l = true
  key : ∀ p ∈ l, ∃ k : Nat, p.1 = .int k ∧ S k
  has : ∀ k : Nat, S k → (kget (.inr (k : Int)) l).isSome = true
theorem kput_key {k : Ky} {d : D} : ∀ {l : List (D × D)} {p : D × D}, p ∈ kput k d l → p.1 = kd k ∨ ∃ q ∈ l, q.1 = p.1
  | [], p, h => .inl (by rw [List.mem_singleton.mp h])
  | (e, x) :: r, p, h => by
    unfold kput at h
    split at h
    · rcases List.mem_cons.mp h with rfl | h
      · exact .inr ⟨_, .head _, rfl⟩
      · exact .inr ⟨p, .tail _ h, rfl⟩
    · rcases List.mem_cons.mp h with rfl | h
      · exact .inr ⟨_, .head _, rfl⟩
      · rcases kput_key h with e | ⟨q, a, b⟩
        · exact .inl e
        · exact .inr ⟨q, .tail _ a, b⟩
theorem Keys.put {l : List (D × D)} {S : Nat → Prop} (h : Keys l S) (k : Nat) (d : D) : Keys (kput (.inr (k : Int)) d l) (fun j => S j ∨ j = k) := by
  refine ⟨knodB_kput h.nod, fun p hp => ?_, fun j hj => ?_⟩
  · rcases kput_key hp with e | ⟨q, a, b⟩
    · exact ⟨k, e, .inr rfl⟩
    · obtain ⟨i, e, s⟩ := h.key q a
      exact ⟨i, b ▸ e, .inl s⟩
  · by_cases z : j = k
    · subst z; rw [kget_kput_self]; rfl
    · rw [kget_kput_ne (fun e => z (by have := Sum.inr.inj e; one_sign))]
      rcases hj with s | s
      · exact h.has j s
      · exact absurd s z
theorem Keys.nil : Keys [] (fun _ => False) := ⟨rfl, fun p hp => (by cases hp), fun k h => h.elim⟩
theorem Keys.iff {l : List (D × D)} {S T : Nat → Prop} (h : Keys l S) (e : ∀ k, S k ↔ T k) : Keys l T := ⟨h.nod, fun p hp => let ⟨k, a, b⟩ := h.key p hp; ⟨k, a, (e k).mp b⟩, fun k t => h.has k ((e k).mpr t)⟩
theorem kget_cons {j : Ky} {e d : D} {r : List (D × D)} : (kget j ((e, d) :: r)).isSome = (kt j e || (kget j r).isSome) := by
  show (if kt j e = true then some d else kget j r).isSome = _
  cases h : kt j e <;> simp
theorem Keys.merge {r : List (D × D)} {T : Nat → Prop} : ∀ {l : List (D × D)} {S : Nat → Prop}, Keys l S → (∀ p ∈ r, ∃ k : Nat, p.1 = .int k ∧ T k) → (∀ k : Nat, T k → (kget (.inr (k : Int)) r).isSome = true) → Keys (mergeD l r) (fun j => S j ∨ T j) := by
  have key : ∀ {r : List (D × D)} {l : List (D × D)} {S : Nat → Prop}, Keys l S → (∀ p ∈ r, ∃ k : Nat, p.1 = .int k ∧ T k) → ∃ U : Nat → Prop, Keys (mergeD l r) U ∧ (∀ j, U j → S j ∨ T j) ∧ (∀ j, S j → U j) ∧ ∀ k : Nat, (kget (.inr (k : Int)) r).isSome = true → U k := by
    intro r
    induction r with
    | nil => intro l S h _; exact ⟨S, h, fun j s => .inl s, fun j s => s, fun k e => by cases e⟩
    | cons p r ih =>
      intro l S h hk
      obtain ⟨k, e, t⟩ := hk p (.head _)
      obtain ⟨e1, d⟩ := p
      simp only at e
      subst e
      have em : mergeD l ((.int k, d) :: r) = mergeD (kput (.inr (k : Int)) d l) r := rfl
      rw [em]
      obtain ⟨U, u1, u2, u3, u4⟩ := ih (h.put k d) fun p hp => hk p (.tail _ hp)
      refine ⟨U, u1, fun j u => ?_, fun j s => u3 j (.inl s), fun j e => ?_⟩
      · rcases u2 j u with (s | rfl) | t'
        · exact .inl s
        · exact .inr t
        · exact .inr t'
      · rw [kget_cons] at e
        rcases Bool.or_eq_true_iff.mp e with e | e
        · have : j = k := by
            unfold kt at e
            have := of_decide_eq_true e
            one_sign
          exact u3 j (.inr this)
        · exact u4 j e
  intro l S h hk hT
  obtain ⟨U, u1, u2, u3, u4⟩ := key h hk
  exact u1.iff fun j => ⟨u2 j, fun x => x.elim (u3 j) fun t => u4 j (hT j t)⟩
theorem merge_len : ∀ {r l : List (D × D)}, (mergeD l r).length ≤ l.length + r.length
  | [], l => Nat.le_refl _
  | p :: r, l => by
    have h2 : (match kOf p.1 with | some k => kput k p.2 l | none => l).length ≤ l.length + 1 := by
      split
      · exact kput_len l
      · one_sign
    refine Nat.le_trans (show (mergeD (match kOf p.1 with | some k => kput k p.2 l | none => l) r).length ≤ _ from merge_len) ?_
    simp only [List.length_cons]
    one_sign
noncomputable def tru (lo : Nat) (n : Nat) : List (Ky × D) := (List.range n).map fun k => (.inr ((lo + k : Nat) : Int), .bool true)
theorem putAll_snoc (ps : List (Ky × D)) (p : Ky × D) (acc : List (D × D)) : putAll (ps ++ [p]) acc = kput p.1 p.2 (putAll ps acc) := by unfold putAll; rw [List.foldl_append]; rfl
theorem tru_keys (lo n : Nat) : Keys (putAll (tru lo n) []) (fun k => lo ≤ k ∧ k < lo + n) := by
  induction n with
  | zero => exact Keys.nil.iff fun k => ⟨fun h => h.elim, fun h => by one_sign⟩
  | succ n ih =>
    have : tru lo (n + 1) = tru lo n ++ [(.inr ((lo + n : Nat) : Int), .bool true)] := by unfold tru; rw [List.range_succ, List.map_append]; rfl
    rw [this, putAll_snoc]
    exact (ih.put (lo + n) (.bool true)).iff fun k => by one_sign
theorem putAll_len : ∀ {ps : List (Ky × D)} {acc : List (D × D)}, (putAll ps acc).length ≤ acc.length + ps.length
  | [], acc => Nat.le_refl _
  | p :: ps, acc => by
    unfold putAll
    rw [List.foldl_cons]
    have := @putAll_len ps (kput p.1 p.2 acc)
    unfold putAll at this
    have h2 := kput_len (k := p.1) (d := p.2) acc
    simp only [List.length_cons]
    one_sign
section
variable {G : Gd} {n : Nat} {H : Hp} {env : Env} {m : Loc}
theorem Ex.pin {d : Addr} {l : List (D × D)} {ss : List Stmt} {QF : Fl → Loc → Hp → Prop} (hd : H d = some (.dct l)) (h : ∀ ep, Ex G n env m (H.set d (pinX G.w.params l ep)) ss QF) : Ex G n env m H ss QF := fun s hL B A T O S => by
  have ne : d ≠ env.locals := fun z => by rw [z, hL] at hd; cases hd
  obtain ⟨ep, S'⟩ := S.pin ((Hp.set_ne _ _ ne).trans hd)
  rw [Hp.set_comm _ _ _ (Ne.symm ne)] at S'
  exact h ep s ((Hp.set_ne _ _ (Ne.symm ne)).trans hL) B A T O S'
end

end
-- the head: the top of the text, run by the machine (printed by headgen.py)
namespace H
noncomputable abbrev prg : Program := PySem.Challenge.rw_on0381_01.row.toRowW.1
noncomputable def at_ (i : Nat) : Stmt := (PySem.Challenge.pw_on0381_01.main.body.drop i).headD (.Pass ⟨0, 0, 0, 0⟩)
noncomputable def in_ (i j : Nat) : Stmt := match at_ i with
  | .ClassDef _ _ _ b _ _ _ _ _ _ _ => (b.drop j).headD (.Pass ⟨0, 0, 0, 0⟩)
  | _ => .Pass ⟨0, 0, 0, 0⟩
noncomputable def ff (s : Stmt) (q : Str) (g : Addr) (d m c : Value) : FuncData := match s with
  | .FunctionDef n a b _ _ _ sc _ _ _ => ⟨n, q, a, .stmts b, sc, g, [], d, .none, .none, m, none, c, .none, 0⟩
  | _ => default
noncomputable abbrev fc (s : Stmt) (q : Str) : FuncData := ff s q 0 .none .none .none
noncomputable abbrev E (P : Params) (s : Str) (t : Nat) (v : Value) : DictEntry := ⟨PyData.keyHash P s, .str s t, v⟩
noncomputable abbrev e0 (P : Params) : DictEntry := (E P "__doc__" 166 .none)
noncomputable abbrev e1 (P : Params) : DictEntry := (E P "__package__" 167 .none)
noncomputable abbrev e2 (P : Params) : DictEntry := (E P "__loader__" 168 (.builtin "__main__.__loader__#opaque"))
noncomputable abbrev e3 (P : Params) : DictEntry := (E P "__spec__" 169 .none)
noncomputable abbrev e4 (P : Params) : DictEntry := (E P "__annotations__" 170 (.ref 6))
noncomputable abbrev e5 (P : Params) : DictEntry := (E P "__builtins__" 171 (.ref 4))
noncomputable abbrev e6 (P : Params) : DictEntry := (E P "__file__" 173 (.str "/claim/cut.py" 172))
noncomputable abbrev e7 (P : Params) : DictEntry := (E P "__cached__" 174 .none)
noncomputable abbrev e8 (P : Params) : DictEntry := (E P "_wall" 193 (.ref 21))
noncomputable abbrev e9 (P : Params) : DictEntry := (E P "MAX_CODE" 197 (.int 1114111 196))
noncomputable abbrev e10 (P : Params) : DictEntry := (E P "UniError" 226 (.ref 39))
noncomputable abbrev e11 (P : Params) : DictEntry := (E P "__module__" 205 (.str "unicore.base" 194))
noncomputable abbrev e12 (P : Params) : DictEntry := (E P "__firstlineno__" 209 (.int 6 208))
noncomputable abbrev e13 (P : Params) : DictEntry := (E P "__init__" 217 (.ref 36))
noncomputable abbrev e14 (P : Params) : DictEntry := (E P "__static_attributes__" 219 (.ref 37))
noncomputable abbrev e15 (P : Params) : DictEntry := (E P "__name__" 165 (.str "unicore.linebreaks" 254))
noncomputable abbrev e16 (P : Params) : DictEntry := (E P "BadRule" 242 (.ref 52))
noncomputable abbrev e17 (P : Params) : DictEntry := (E P "place_by_half" 253 (.ref 61))
noncomputable abbrev e18 (P : Params) : DictEntry := (E P "LINE_HARD" 260 (.ref 62))
noncomputable abbrev e19 (P : Params) : DictEntry := (E P "LINE_BARE" 267 (.ref 63))
noncomputable abbrev e20 (P : Params) : DictEntry := (E P "LINE_MARKS" 270 (.ref 64))
noncomputable abbrev e21 (P : Params) : DictEntry := (E P "LINE_PLAIN" 274 (.ref 65))
noncomputable abbrev e22 (P : Params) : DictEntry := (E P "LINE_CLOSING" 280 (.ref 66))
noncomputable abbrev e23 (P : Params) : DictEntry := (E P "LINE_AHEAD_OF_OPENING" 290 (.ref 67))
noncomputable abbrev e24 (P : Params) : DictEntry := (E P "LINE_BEHIND_CLOSING" 305 (.ref 68))
noncomputable abbrev e25 (P : Params) : DictEntry := (E P "LINE_ALPHABETIC" 308 (.ref 69))
noncomputable abbrev e26 (P : Params) : DictEntry := (E P "LINE_IDEOGRAPHIC" 312 (.ref 70))
noncomputable abbrev e27 (P : Params) : DictEntry := (E P "__module__" 234 (.str "unicore.base" 194))
noncomputable abbrev e28 (P : Params) : DictEntry := (E P "__firstlineno__" 238 (.int 10 237))
noncomputable abbrev e29 (P : Params) : DictEntry := (E P "__static_attributes__" 239 (.ref 50))
noncomputable abbrev e30 (P : Params) : DictEntry := (E P "LINE_AFFIXES" 315 (.ref 71))
noncomputable abbrev e31 (P : Params) : DictEntry := (E P "LINE_SYLLABIC" 321 (.ref 72))
noncomputable abbrev e32 (P : Params) : DictEntry := (E P "LINE_INNER" 325 (.ref 73))
noncomputable abbrev e33 (P : Params) : DictEntry := (E P "LINE_WIDE" 329 (.ref 74))
noncomputable abbrev e34 (P : Params) : DictEntry := (E P "LINE_KEPT" 339 (.ref 75))
noncomputable abbrev e35 (P : Params) : DictEntry := (E P "LINE_NUMBERS" 368 (.ref 90))
noncomputable abbrev e36 (P : Params) : DictEntry := (E P "LINE_JAMO" 389 (.ref 91))
noncomputable abbrev e37 (P : Params) : DictEntry := (E P "LINE_ITERATION" 396 (.ref 97))
noncomputable abbrev e38 (P : Params) : DictEntry := (E P "LINE_JAMO_RANGES" 415 (.ref 104))
noncomputable abbrev e39 (P : Params) : DictEntry := (E P "LINE_FIRST_SYLLABLE" 417 (.int 44032 416))
noncomputable abbrev e40 (P : Params) : DictEntry := (E P "LINE_LAST_SYLLABLE" 419 (.int 55203 418))
noncomputable abbrev e41 (P : Params) : DictEntry := (E P "LINE_TAILS" 421 (.int 28 420))
noncomputable abbrev e42 (P : Params) : DictEntry := (E P "DOTTED_CIRCLE" 423 (.int 9676 422))
noncomputable abbrev e43 (P : Params) : DictEntry := (E P "LineHow" 458 (.ref 122))
noncomputable abbrev e44 (P : Params) : DictEntry := (E P "line_hangul" 468 (.ref 133))
noncomputable abbrev e45 (P : Params) : DictEntry := (E P "line_class" 478 (.ref 140))
noncomputable abbrev e46 (P : Params) : DictEntry := (E P "__module__" 431 (.str "unicore.linebreaks" 254))
noncomputable abbrev e47 (P : Params) : DictEntry := (E P "__firstlineno__" 435 (.int 45 434))
noncomputable abbrev e48 (P : Params) : DictEntry := (E P "__init__" 447 (.ref 119))
noncomputable abbrev e49 (P : Params) : DictEntry := (E P "__static_attributes__" 451 (.ref 120))
noncomputable abbrev e50 (P : Params) : DictEntry := (E P "LineUnit" 512 (.ref 157))
noncomputable abbrev e51 (P : Params) : DictEntry := (E P "line_units" 525 (.ref 168))
noncomputable abbrev e52 (P : Params) : DictEntry := (E P "__module__" 486 (.str "unicore.linebreaks" 254))
noncomputable abbrev e53 (P : Params) : DictEntry := (E P "__firstlineno__" 490 (.int 73 489))
noncomputable abbrev e54 (P : Params) : DictEntry := (E P "__init__" 500 (.ref 154))
noncomputable abbrev e55 (P : Params) : DictEntry := (E P "__static_attributes__" 505 (.ref 155))
noncomputable abbrev e56 (P : Params) : DictEntry := (E P "LineView" 599 (.ref 213))
noncomputable abbrev e57 (P : Params) : DictEntry := (E P "line_rule_hard" 609 (.ref 224))
noncomputable abbrev e58 (P : Params) : DictEntry := (E P "__module__" 533 (.str "unicore.linebreaks" 254))
noncomputable abbrev e59 (P : Params) : DictEntry := (E P "__firstlineno__" 537 (.int 91 536))
noncomputable abbrev e60 (P : Params) : DictEntry := (E P "__init__" 552 (.ref 182))
noncomputable abbrev e61 (P : Params) : DictEntry := (E P "word" 560 (.ref 189))
noncomputable abbrev e62 (P : Params) : DictEntry := (E P "solid_word" 568 (.ref 196))
noncomputable abbrev e63 (P : Params) : DictEntry := (E P "is_quote" 577 (.ref 203))
noncomputable abbrev e64 (P : Params) : DictEntry := (E P "is_narrow" 585 (.ref 210))
noncomputable abbrev e65 (P : Params) : DictEntry := (E P "__static_attributes__" 592 (.ref 211))
noncomputable abbrev e66 (P : Params) : DictEntry := (E P "line_rule_spaces" 617 (.ref 231))
noncomputable abbrev e67 (P : Params) : DictEntry := (E P "line_rule_glue" 627 (.ref 238))
noncomputable abbrev e68 (P : Params) : DictEntry := (E P "line_rule_closing" 637 (.ref 245))
noncomputable abbrev e69 (P : Params) : DictEntry := (E P "line_rule_quotes" 646 (.ref 252))
noncomputable abbrev e70 (P : Params) : DictEntry := (E P "line_rule_over_spaces" 656 (.ref 259))
noncomputable abbrev e71 (P : Params) : DictEntry := (E P "line_rule_signs" 667 (.ref 266))
noncomputable abbrev e72 (P : Params) : DictEntry := (E P "line_rule_letters" 677 (.ref 273))
noncomputable abbrev e73 (P : Params) : DictEntry := (E P "line_is_number" 685 (.ref 280))
noncomputable abbrev e74 (P : Params) : DictEntry := (E P "line_rule_expression" 697 (.ref 287))
noncomputable abbrev e75 (P : Params) : DictEntry := (E P "line_rule_numbers" 705 (.ref 294))
noncomputable abbrev e76 (P : Params) : DictEntry := (E P "line_rule_syllables" 715 (.ref 301))
noncomputable abbrev e77 (P : Params) : DictEntry := (E P "line_is_aksara" 724 (.ref 308))
noncomputable abbrev e78 (P : Params) : DictEntry := (E P "line_rule_aksaras" 738 (.ref 315))
noncomputable abbrev e79 (P : Params) : DictEntry := (E P "line_rule_brackets" 748 (.ref 322))
noncomputable abbrev e80 (P : Params) : DictEntry := (E P "line_rule_pictures" 759 (.ref 329))
noncomputable abbrev e81 (P : Params) : DictEntry := (E P "line_verdict" 768 (.ref 336))
noncomputable abbrev e82 (P : Params) : DictEntry := (E P "line_verdicts" 780 (.ref 343))
noncomputable abbrev e83 (P : Params) : DictEntry := (E P "LineBreaks" 853 (.ref 394))
noncomputable abbrev e84 (P : Params) : DictEntry := (E P "__module__" 788 (.str "unicore.linebreaks" 254))
noncomputable abbrev e85 (P : Params) : DictEntry := (E P "__firstlineno__" 792 (.int 255 791))
noncomputable abbrev e86 (P : Params) : DictEntry := (E P "__init__" 801 (.ref 358))
noncomputable abbrev e87 (P : Params) : DictEntry := (E P "opportunities" 807 (.ref 363))
noncomputable abbrev e88 (P : Params) : DictEntry := (E P "reasons" 813 (.ref 368))
noncomputable abbrev e89 (P : Params) : DictEntry := (E P "measure" 822 (.ref 375))
noncomputable abbrev e90 (P : Params) : DictEntry := (E P "fit_lines" 833 (.ref 384))
noncomputable abbrev e91 (P : Params) : DictEntry := (E P "even_lines" 843 (.ref 391))
noncomputable abbrev e92 (P : Params) : DictEntry := (E P "__static_attributes__" 846 (.ref 392))
noncomputable abbrev e93 (P : Params) : DictEntry := (E P "range_are_like" 863 (.ref 405))
noncomputable abbrev e94 (P : Params) : DictEntry := (E P "RangeMap" 932 (.ref 450))
noncomputable abbrev e95 (P : Params) : DictEntry := (E P "__module__" 871 (.str "unicore.ranges" 854))
noncomputable abbrev e96 (P : Params) : DictEntry := (E P "__firstlineno__" 875 (.int 278 874))
noncomputable abbrev e97 (P : Params) : DictEntry := (E P "__init__" 883 (.ref 419))
noncomputable abbrev e98 (P : Params) : DictEntry := (E P "get" 891 (.ref 426))
noncomputable abbrev e99 (P : Params) : DictEntry := (E P "put" 906 (.ref 433))
noncomputable abbrev e100 (P : Params) : DictEntry := (E P "ranges" 913 (.ref 440))
noncomputable abbrev e101 (P : Params) : DictEntry := (E P "set_of" 921 (.ref 447))
noncomputable abbrev e102 (P : Params) : DictEntry := (E P "__static_attributes__" 925 (.ref 448))
noncomputable abbrev e103 (P : Params) : DictEntry := (E P "__name__" 165 (.str "law_on0381_01" 1002))
noncomputable abbrev e104 (P : Params) : DictEntry := (E P "data_defaults" 942 (.ref 461))
noncomputable abbrev e105 (P : Params) : DictEntry := (E P "Data" 1001 (.ref 499))
noncomputable abbrev e106 (P : Params) : DictEntry := (E P "_law_syllables" 1011 (.ref 504))
noncomputable abbrev e107 (P : Params) : DictEntry := (E P "__module__" 950 (.str "unicore.data" 933))
noncomputable abbrev e108 (P : Params) : DictEntry := (E P "__firstlineno__" 954 (.int 321 953))
noncomputable abbrev e109 (P : Params) : DictEntry := (E P "__init__" 961 (.ref 475))
noncomputable abbrev e110 (P : Params) : DictEntry := (E P "put" 972 (.ref 482))
noncomputable abbrev e111 (P : Params) : DictEntry := (E P "get" 981 (.ref 489))
noncomputable abbrev e112 (P : Params) : DictEntry := (E P "map_of" 989 (.ref 496))
noncomputable abbrev e113 (P : Params) : DictEntry := (E P "__static_attributes__" 994 (.ref 497))
noncomputable abbrev o43 (P : Params) : Obj := ⟨(.type "tuple"), none, (.seq #[] 0), #[]⟩
noncomputable abbrev o44 (P : Params) : Obj := ⟨.none, none, (.fields #[]), #[]⟩
noncomputable abbrev o45 (P : Params) : Obj := ⟨(.type "code"), none, (.fields #[(.str "<module>" 182), (.str "<module>" 183), (.str "/claim/cut.py" 184), (.int 1 0), (.int 0 0), (.int 0 0), (.int 0 0), (.int 0 0), (.ref 11), (.bool false), (.int 181 0), (.ref 12), .none, .none, .none, .none, (.int 185 0), (.int 1 0), (.str "/claim/cut.py" 186)]), #[]⟩
noncomputable abbrev o46 (P : Params) : Obj := ⟨(.type "frame"), none, .plain, #[(some (.ref 13)), (some (.ref 3)), (some (.ref 3)), none, (some (.str "__main__" 164)), none, (some (.ref 0))]⟩
noncomputable abbrev o49 (P : Params) : Obj := ⟨.none, none, (.dict #[(E P "type.__subclasses__.Exception.0" 223 (.int 39 0)), (E P "type.__subclasses__.Exception.n" 224 (.int 1 0))] 2), #[]⟩
noncomputable abbrev o50 (P : Params) : Obj := ⟨(.type "dict"), none, (.dict #[(E P "__name__" 165 (.str "unicore.base" 194)), e0 P, e1 P, e2 P, e3 P, e4 P, e5 P, e6 P, e7 P, e8 P, e9 P, e10 P] 12), #[]⟩
noncomputable abbrev o51 (P : Params) : Obj := ⟨.none, none, (.fields #[(.int 1 0), (.int 0 0), (.ref 20), (.int 6 0), (.int 0 0), (.ref 27)]), #[]⟩
noncomputable abbrev o52 (P : Params) : Obj := ⟨(.type "tuple"), none, (.seq #[] 0), #[]⟩
noncomputable abbrev o53 (P : Params) : Obj := ⟨.none, none, (.fields #[]), #[]⟩
noncomputable abbrev o54 (P : Params) : Obj := ⟨(.type "tuple"), none, (.seq #[(.str "k" 190)] 0), #[]⟩
noncomputable abbrev o55 (P : Params) : Obj := ⟨(.type "tuple"), none, (.seq #[] 0), #[]⟩
noncomputable abbrev o56 (P : Params) : Obj := ⟨.none, none, (.func (fc (at_ 0) "_wall")), #[]⟩
noncomputable abbrev o57 (P : Params) : Obj := ⟨(.type "code"), none, (.fields #[(.str "_wall" 187), (.str "_wall" 188), (.str "/claim/cut.py" 189), (.int 1 0), (.int 1 0), (.int 0 0), (.int 0 0), (.int 3 0), (.ref 15), (.bool true), (.int 181 0), (.ref 16), .none, (.ref 17), (.ref 18), (.ref 19), (.int 191 0), (.int 1 0), (.str "/claim/cut.py" 192)]), #[]⟩
noncomputable abbrev o58 (P : Params) : Obj := ⟨(.type "function"), none, (.func (ff (at_ 0) "_wall" 3 .none (.str "__main__" 164) (.ref 20))), #[]⟩
noncomputable abbrev o59 (P : Params) : Obj := ⟨(.type "tuple"), none, (.seq #[(.type "Exception")] 0), #[]⟩
noncomputable abbrev o60 (P : Params) : Obj := ⟨(.type "builtin_function_or_method"), none, (.fields #[(.builtin "type.__prepare__"), (.type "type")]), #[]⟩
noncomputable abbrev o61 (P : Params) : Obj := ⟨(.type "dict"), none, (.dict #[e11 P, (E P "__qualname__" 207 (.str "UniError" 206)), e12 P, e13 P, e14 P] 5), #[]⟩
noncomputable abbrev o62 (P : Params) : Obj := ⟨(.type "tuple"), none, (.seq #[] 0), #[]⟩
noncomputable abbrev o63 (P : Params) : Obj := ⟨.none, none, (.fields #[(.int 8 0), (.int 4 0), (.ref 35)]), #[]⟩
noncomputable abbrev o64 (P : Params) : Obj := ⟨(.type "code"), none, (.fields #[(.str "UniError" 200), (.str "UniError" 201), (.str "/claim/cut.py" 202), (.int 6 0), (.int 0 0), (.int 0 0), (.int 0 0), (.int 0 0), (.ref 25), (.bool false), (.int 181 0), (.ref 26), .none, .none, .none, .none, (.int 203 0), (.int 6 0), (.str "/claim/cut.py" 204)]), #[]⟩
noncomputable abbrev o65 (P : Params) : Obj := ⟨(.type "frame"), none, .plain, #[(some (.ref 27)), (some (.ref 3)), (some (.ref 24)), none, (some (.str "unicore.base" 194)), none, (some (.ref 0))]⟩
noncomputable abbrev o66 (P : Params) : Obj := ⟨(.type "tuple"), none, (.seq #[.none] 0), #[]⟩
noncomputable abbrev o67 (P : Params) : Obj := ⟨(.type "tuple"), none, (.seq #[] 0), #[]⟩
noncomputable abbrev o68 (P : Params) : Obj := ⟨.none, none, (.fields #[]), #[]⟩
noncomputable abbrev o69 (P : Params) : Obj := ⟨(.type "tuple"), none, (.seq #[(.str "self" 213), (.str "told" 214)] 0), #[]⟩
noncomputable abbrev o70 (P : Params) : Obj := ⟨(.type "tuple"), none, (.seq #[] 0), #[]⟩
noncomputable abbrev o71 (P : Params) : Obj := ⟨.none, none, (.func (fc (in_ 3 0) "UniError.__init__")), #[]⟩
noncomputable abbrev o72 (P : Params) : Obj := ⟨(.type "code"), none, (.fields #[(.str "__init__" 210), (.str "UniError.__init__" 211), (.str "/claim/cut.py" 212), (.int 8 0), (.int 2 0), (.int 0 0), (.int 0 0), (.int 3 0), (.ref 30), (.bool true), (.int 181 0), (.ref 31), .none, (.ref 32), (.ref 33), (.ref 34), (.int 215 0), (.int 8 0), (.str "/claim/cut.py" 216)]), #[]⟩
noncomputable abbrev o73 (P : Params) : Obj := ⟨(.type "function"), none, (.func (ff (in_ 3 0) "UniError.__init__" 3 (.ref 29) (.str "unicore.base" 194) (.ref 35))), #[]⟩
noncomputable abbrev o74 (P : Params) : Obj := ⟨(.type "tuple"), none, (.seq #[(.str "told" 218)] 0), #[]⟩
noncomputable abbrev o75 (P : Params) : Obj := ⟨(.type "dict"), none, (.dict #[e11 P, e12 P, e13 P, e14 P, (E P "__weakref__" 221 (.ref 40)), (E P "__doc__" 222 .none)] 3), #[]⟩
noncomputable abbrev o76 (P : Params) : Obj := ⟨(.type "type"), none, (.cls ⟨"UniError", [(.type "Exception")], [(.ref 39), (.type "Exception"), (.type "BaseException"), (.type "object")], 38, "UniError", true, [], [], false, none, false⟩), #[(some (.ref 22)), none, (some (.str "UniError" 198)), (some (.str "UniError" 206)), (some (.builtin "Exception.__new__")), (some (.bool true))]⟩
noncomputable abbrev o77 (P : Params) : Obj := ⟨(.type "getset_descriptor"), none, (.fields #[(.str "__weakref__" 220), (.ref 39), (.builtin "ExceptionGroup.__weakref__"), .none]), #[]⟩
noncomputable abbrev o78 (P : Params) : Obj := ⟨(.type "super"), none, (.fields #[(.ref 39), (.ref 39), (.ref 39)]), #[]⟩
noncomputable abbrev o79 (P : Params) : Obj := ⟨(.type "builtin_function_or_method"), none, (.fields #[(.builtin "object.__init_subclass__"), (.ref 39)]), #[]⟩
noncomputable abbrev o80 (P : Params) : Obj := ⟨(.type "dict"), none, (.dict #[e15 P, e0 P, e1 P, e2 P, e3 P, e4 P, e5 P, e6 P, e7 P, e8 P, e9 P, e10 P, e16 P, e17 P, e18 P, e19 P, e20 P, e21 P, e22 P, e23 P, e24 P, e25 P, e26 P] 23), #[]⟩
noncomputable abbrev o81 (P : Params) : Obj := ⟨.none, none, (.fields #[(.int 1 0), (.int 0 0), (.ref 20), (.int 6 0), (.int 0 0), (.ref 27), (.int 10 0), (.int 0 0), (.ref 48), (.int 12 0), (.int 0 0), (.ref 60)]), #[]⟩
noncomputable abbrev o82 (P : Params) : Obj := ⟨(.type "type"), none, (.cls ⟨"UniError", [(.type "Exception")], [(.ref 39), (.type "Exception"), (.type "BaseException"), (.type "object")], 38, "UniError", true, [], [(.ref 52)], false, none, false⟩), #[(some (.ref 22)), none, (some (.str "UniError" 198)), (some (.str "UniError" 206)), (some (.builtin "Exception.__new__")), (some (.bool true))]⟩
noncomputable abbrev o83 (P : Params) : Obj := ⟨(.type "tuple"), none, (.seq #[(.ref 39)] 0), #[]⟩
noncomputable abbrev o84 (P : Params) : Obj := ⟨(.type "builtin_function_or_method"), none, (.fields #[(.builtin "type.__prepare__"), (.type "type")]), #[]⟩
noncomputable abbrev o85 (P : Params) : Obj := ⟨(.type "dict"), none, (.dict #[e27 P, (E P "__qualname__" 236 (.str "BadRule" 235)), e28 P, e29 P] 4), #[]⟩
noncomputable abbrev o86 (P : Params) : Obj := ⟨(.type "tuple"), none, (.seq #[] 0), #[]⟩
noncomputable abbrev o87 (P : Params) : Obj := ⟨.none, none, (.fields #[]), #[]⟩
noncomputable abbrev o88 (P : Params) : Obj := ⟨(.type "code"), none, (.fields #[(.str "BadRule" 229), (.str "BadRule" 230), (.str "/claim/cut.py" 231), (.int 10 0), (.int 0 0), (.int 0 0), (.int 0 0), (.int 0 0), (.ref 46), (.bool false), (.int 181 0), (.ref 47), .none, .none, .none, .none, (.int 232 0), (.int 10 0), (.str "/claim/cut.py" 233)]), #[]⟩
noncomputable abbrev o89 (P : Params) : Obj := ⟨(.type "frame"), none, .plain, #[(some (.ref 48)), (some (.ref 3)), (some (.ref 45)), none, (some (.str "unicore.base" 194)), none, (some (.ref 0))]⟩
noncomputable abbrev o90 (P : Params) : Obj := ⟨(.type "tuple"), none, (.seq #[] 0), #[]⟩
noncomputable abbrev o91 (P : Params) : Obj := ⟨(.type "dict"), none, (.dict #[e27 P, e28 P, e29 P, (E P "__doc__" 240 .none)] 2), #[]⟩
noncomputable abbrev o92 (P : Params) : Obj := ⟨(.type "type"), none, (.cls ⟨"BadRule", [(.ref 39)], [(.ref 52), (.ref 39), (.type "Exception"), (.type "BaseException"), (.type "object")], 51, "BadRule", true, [], [], false, none, false⟩), #[(some (.ref 43)), none, (some (.str "BadRule" 227)), (some (.str "BadRule" 235)), (some (.builtin "Exception.__new__")), (some (.bool true))]⟩
noncomputable abbrev o93 (P : Params) : Obj := ⟨(.type "super"), none, (.fields #[(.ref 52), (.ref 52), (.ref 52)]), #[]⟩
noncomputable abbrev o94 (P : Params) : Obj := ⟨(.type "builtin_function_or_method"), none, (.fields #[(.builtin "object.__init_subclass__"), (.ref 52)]), #[]⟩
noncomputable abbrev o95 (P : Params) : Obj := ⟨(.type "tuple"), none, (.seq #[] 0), #[]⟩
noncomputable abbrev o96 (P : Params) : Obj := ⟨.none, none, (.fields #[]), #[]⟩
noncomputable abbrev o97 (P : Params) : Obj := ⟨(.type "tuple"), none, (.seq #[(.str "firsts" 246), (.str "number" 247), (.str "low" 248), (.str "high" 249), (.str "middle" 250)] 0), #[]⟩
noncomputable abbrev o98 (P : Params) : Obj := ⟨(.type "tuple"), none, (.seq #[] 0), #[]⟩
noncomputable abbrev o99 (P : Params) : Obj := ⟨.none, none, (.func (fc (at_ 5) "place_by_half")), #[]⟩
noncomputable abbrev o100 (P : Params) : Obj := ⟨(.type "code"), none, (.fields #[(.str "place_by_half" 243), (.str "place_by_half" 244), (.str "/claim/cut.py" 245), (.int 12 0), (.int 2 0), (.int 0 0), (.int 0 0), (.int 3 0), (.ref 55), (.bool true), (.int 181 0), (.ref 56), .none, (.ref 57), (.ref 58), (.ref 59), (.int 251 0), (.int 12 0), (.str "/claim/cut.py" 252)]), #[]⟩
noncomputable abbrev o101 (P : Params) : Obj := ⟨(.type "function"), none, (.func (ff (at_ 5) "place_by_half" 3 .none (.str "unicore.base" 194) (.ref 60))), #[]⟩
noncomputable abbrev o102 (P : Params) : Obj := ⟨(.type "tuple"), none, (.seq #[(.str "BK" 256), (.str "CR" 257), (.str "LF" 258), (.str "NL" 259)] 0), #[]⟩
noncomputable abbrev o103 (P : Params) : Obj := ⟨(.type "tuple"), none, (.seq #[(.str "BK" 261), (.str "CR" 262), (.str "LF" 263), (.str "NL" 264), (.str "SP" 265), (.str "ZW" 266)] 0), #[]⟩
noncomputable abbrev o104 (P : Params) : Obj := ⟨(.type "tuple"), none, (.seq #[(.str "CM" 268), (.str "ZWJ" 269)] 0), #[]⟩
noncomputable abbrev o105 (P : Params) : Obj := ⟨(.type "tuple"), none, (.seq #[(.str "AI" 271), (.str "SG" 272), (.str "XX" 273)] 0), #[]⟩
noncomputable abbrev o106 (P : Params) : Obj := ⟨(.type "tuple"), none, (.seq #[(.str "CL" 275), (.str "CP" 276), (.str "EX" 277), (.str "IS" 278), (.str "SY" 279)] 0), #[]⟩
noncomputable abbrev o107 (P : Params) : Obj := ⟨(.type "tuple"), none, (.seq #[(.str "BK" 281), (.str "CR" 282), (.str "LF" 283), (.str "NL" 284), (.str "OP" 285), (.str "QU" 286), (.str "GL" 287), (.str "SP" 288), (.str "ZW" 289)] 0), #[]⟩
noncomputable abbrev o108 (P : Params) : Obj := ⟨(.type "tuple"), none, (.seq #[(.str "SP" 291), (.str "GL" 292), (.str "WJ" 293), (.str "CL" 294), (.str "QU" 295), (.str "CP" 296), (.str "EX" 297), (.str "IS" 298), (.str "SY" 299), (.str "BK" 300), (.str "CR" 301), (.str "LF" 302), (.str "NL" 303), (.str "ZW" 304)] 0), #[]⟩
noncomputable abbrev o109 (P : Params) : Obj := ⟨(.type "tuple"), none, (.seq #[(.str "AL" 306), (.str "HL" 307)] 0), #[]⟩
noncomputable abbrev o110 (P : Params) : Obj := ⟨(.type "tuple"), none, (.seq #[(.str "ID" 309), (.str "EB" 310), (.str "EM" 311)] 0), #[]⟩
noncomputable abbrev o111 (P : Params) : Obj := ⟨(.type "dict"), none, (.dict #[e15 P, e0 P, e1 P, e2 P, e3 P, e4 P, e5 P, e6 P, e7 P, e8 P, e9 P, e10 P, e16 P, e17 P, e18 P, e19 P, e20 P, e21 P, e22 P, e23 P, e24 P, e25 P, e26 P, e30 P, e31 P, e32 P, e33 P, e34 P, e35 P, e36 P, e37 P, e38 P, e39 P, e40 P, e41 P, e42 P] 36), #[]⟩
noncomputable abbrev o112 (P : Params) : Obj := ⟨(.type "tuple"), none, (.seq #[(.str "PR" 313), (.str "PO" 314)] 0), #[]⟩
noncomputable abbrev o113 (P : Params) : Obj := ⟨(.type "tuple"), none, (.seq #[(.str "JL" 316), (.str "JV" 317), (.str "JT" 318), (.str "H2" 319), (.str "H3" 320)] 0), #[]⟩
noncomputable abbrev o114 (P : Params) : Obj := ⟨(.type "tuple"), none, (.seq #[(.str "NU" 322), (.str "SY" 323), (.str "IS" 324)] 0), #[]⟩
noncomputable abbrev o115 (P : Params) : Obj := ⟨(.type "tuple"), none, (.seq #[(.str "F" 326), (.str "W" 327), (.str "H" 328)] 0), #[]⟩
noncomputable abbrev o116 (P : Params) : Obj := ⟨(.type "tuple"), none, (.seq #[(.str "AL" 330), (.str "HL" 331), (.str "ID" 332), (.str "NU" 333), (.str "JL" 334), (.str "JV" 335), (.str "JT" 336), (.str "H2" 337), (.str "H3" 338)] 0), #[]⟩
noncomputable abbrev o117 (P : Params) : Obj := ⟨(.type "tuple"), none, (.seq #[(.str "CL" 340), (.str "PO" 341)] 0), #[]⟩
noncomputable abbrev o118 (P : Params) : Obj := ⟨(.type "tuple"), none, (.seq #[(.str "CP" 342), (.str "PO" 343)] 0), #[]⟩
noncomputable abbrev o119 (P : Params) : Obj := ⟨(.type "tuple"), none, (.seq #[(.str "CL" 344), (.str "PR" 345)] 0), #[]⟩
noncomputable abbrev o120 (P : Params) : Obj := ⟨(.type "tuple"), none, (.seq #[(.str "CP" 346), (.str "PR" 347)] 0), #[]⟩
noncomputable abbrev o121 (P : Params) : Obj := ⟨(.type "tuple"), none, (.seq #[(.str "NU" 348), (.str "PO" 349)] 0), #[]⟩
noncomputable abbrev o122 (P : Params) : Obj := ⟨(.type "tuple"), none, (.seq #[(.str "NU" 350), (.str "PR" 351)] 0), #[]⟩
noncomputable abbrev o123 (P : Params) : Obj := ⟨(.type "tuple"), none, (.seq #[(.str "PO" 352), (.str "OP" 353)] 0), #[]⟩
noncomputable abbrev o124 (P : Params) : Obj := ⟨(.type "tuple"), none, (.seq #[(.str "PO" 354), (.str "NU" 355)] 0), #[]⟩
noncomputable abbrev o125 (P : Params) : Obj := ⟨(.type "tuple"), none, (.seq #[(.str "PR" 356), (.str "OP" 357)] 0), #[]⟩
noncomputable abbrev o126 (P : Params) : Obj := ⟨(.type "tuple"), none, (.seq #[(.str "PR" 358), (.str "NU" 359)] 0), #[]⟩
noncomputable abbrev o127 (P : Params) : Obj := ⟨(.type "tuple"), none, (.seq #[(.str "HY" 360), (.str "NU" 361)] 0), #[]⟩
noncomputable abbrev o128 (P : Params) : Obj := ⟨(.type "tuple"), none, (.seq #[(.str "IS" 362), (.str "NU" 363)] 0), #[]⟩
noncomputable abbrev o129 (P : Params) : Obj := ⟨(.type "tuple"), none, (.seq #[(.str "NU" 364), (.str "NU" 365)] 0), #[]⟩
noncomputable abbrev o130 (P : Params) : Obj := ⟨(.type "tuple"), none, (.seq #[(.str "SY" 366), (.str "NU" 367)] 0), #[]⟩
noncomputable abbrev o131 (P : Params) : Obj := ⟨(.type "tuple"), none, (.seq #[(.ref 76), (.ref 77), (.ref 78), (.ref 79), (.ref 80), (.ref 81), (.ref 82), (.ref 83), (.ref 84), (.ref 85), (.ref 86), (.ref 87), (.ref 88), (.ref 89)] 0), #[]⟩
noncomputable abbrev o132 (P : Params) : Obj := ⟨(.type "dict"), none, (.dict #[(E P "JL" 369 (.ref 92)), (E P "JV" 374 (.ref 93)), (E P "H2" 377 (.ref 94)), (E P "JT" 380 (.ref 95)), (E P "H3" 382 (.ref 96))] 5), #[]⟩
noncomputable abbrev o133 (P : Params) : Obj := ⟨(.type "tuple"), none, (.seq #[(.str "JL" 370), (.str "JV" 371), (.str "H2" 372), (.str "H3" 373)] 0), #[]⟩
noncomputable abbrev o134 (P : Params) : Obj := ⟨(.type "tuple"), none, (.seq #[(.str "JV" 375), (.str "JT" 376)] 0), #[]⟩
noncomputable abbrev o135 (P : Params) : Obj := ⟨(.type "tuple"), none, (.seq #[(.str "JV" 378), (.str "JT" 379)] 0), #[]⟩
noncomputable abbrev o136 (P : Params) : Obj := ⟨(.type "tuple"), none, (.seq #[(.str "JT" 381)] 0), #[]⟩
noncomputable abbrev o137 (P : Params) : Obj := ⟨(.type "tuple"), none, (.seq #[(.str "JT" 383)] 0), #[]⟩
noncomputable abbrev o138 (P : Params) : Obj := ⟨(.type "tuple"), none, (.seq #[(.int 12293 390), (.int 12347 391), (.int 12445 392), (.int 12446 393), (.int 12541 394), (.int 12542 395)] 0), #[]⟩
noncomputable abbrev o139 (P : Params) : Obj := ⟨(.type "tuple"), none, (.seq #[(.int 4352 397), (.int 4447 398), (.str "JL" 399)] 0), #[]⟩
noncomputable abbrev o140 (P : Params) : Obj := ⟨(.type "tuple"), none, (.seq #[(.int 4448 400), (.int 4519 401), (.str "JV" 402)] 0), #[]⟩
noncomputable abbrev o141 (P : Params) : Obj := ⟨(.type "tuple"), none, (.seq #[(.int 4520 403), (.int 4607 404), (.str "JT" 405)] 0), #[]⟩
noncomputable abbrev o142 (P : Params) : Obj := ⟨(.type "tuple"), none, (.seq #[(.int 43360 406), (.int 43388 407), (.str "JL" 408)] 0), #[]⟩
noncomputable abbrev o143 (P : Params) : Obj := ⟨(.type "tuple"), none, (.seq #[(.int 55216 409), (.int 55238 410), (.str "JV" 411)] 0), #[]⟩
noncomputable abbrev o144 (P : Params) : Obj := ⟨(.type "tuple"), none, (.seq #[(.int 55243 412), (.int 55291 413), (.str "JT" 414)] 0), #[]⟩
noncomputable abbrev o145 (P : Params) : Obj := ⟨(.type "tuple"), none, (.seq #[(.ref 98), (.ref 99), (.ref 100), (.ref 101), (.ref 102), (.ref 103)] 0), #[]⟩
noncomputable abbrev o148 (P : Params) : Obj := ⟨(.type "dict"), none, (.dict #[e15 P, e0 P, e1 P, e2 P, e3 P, e4 P, e5 P, e6 P, e7 P, e8 P, e9 P, e10 P, e16 P, e17 P, e18 P, e19 P, e20 P, e21 P, e22 P, e23 P, e24 P, e25 P, e26 P, e30 P, e31 P, e32 P, e33 P, e34 P, e35 P, e36 P, e37 P, e38 P, e39 P, e40 P, e41 P, e42 P, e43 P, e44 P, e45 P] 39), #[]⟩
noncomputable abbrev o149 (P : Params) : Obj := ⟨.none, none, (.fields #[(.int 1 0), (.int 0 0), (.ref 20), (.int 6 0), (.int 0 0), (.ref 27), (.int 10 0), (.int 0 0), (.ref 48), (.int 12 0), (.int 0 0), (.ref 60), (.int 45 0), (.int 0 0), (.ref 110), (.int 55 0), (.int 0 0), (.ref 132), (.int 62 0), (.int 0 0), (.ref 139)]), #[]⟩
noncomputable abbrev o150 (P : Params) : Obj := ⟨(.type "tuple"), none, (.seq #[] 0), #[]⟩
noncomputable abbrev o151 (P : Params) : Obj := ⟨(.type "builtin_function_or_method"), none, (.fields #[(.builtin "type.__prepare__"), (.type "type")]), #[]⟩
noncomputable abbrev o152 (P : Params) : Obj := ⟨(.type "dict"), none, (.dict #[e46 P, (E P "__qualname__" 433 (.str "LineHow" 432)), e47 P, e48 P, e49 P] 5), #[]⟩
noncomputable abbrev o153 (P : Params) : Obj := ⟨(.type "tuple"), none, (.seq #[] 0), #[]⟩
noncomputable abbrev o154 (P : Params) : Obj := ⟨.none, none, (.fields #[(.int 47 0), (.int 4 0), (.ref 118)]), #[]⟩
noncomputable abbrev o155 (P : Params) : Obj := ⟨(.type "code"), none, (.fields #[(.str "LineHow" 426), (.str "LineHow" 427), (.str "/claim/cut.py" 428), (.int 45 0), (.int 0 0), (.int 0 0), (.int 0 0), (.int 0 0), (.ref 108), (.bool false), (.int 181 0), (.ref 109), .none, .none, .none, .none, (.int 429 0), (.int 45 0), (.str "/claim/cut.py" 430)]), #[]⟩
noncomputable abbrev o156 (P : Params) : Obj := ⟨(.type "frame"), none, .plain, #[(some (.ref 110)), (some (.ref 3)), (some (.ref 107)), none, (some (.str "unicore.linebreaks" 254)), none, (some (.ref 0))]⟩
noncomputable abbrev o157 (P : Params) : Obj := ⟨(.type "tuple"), none, (.seq #[(.str "strict" 436), (.bool false), (.str "pairs" 437)] 0), #[]⟩
noncomputable abbrev o158 (P : Params) : Obj := ⟨(.type "tuple"), none, (.seq #[] 0), #[]⟩
noncomputable abbrev o159 (P : Params) : Obj := ⟨.none, none, (.fields #[]), #[]⟩
noncomputable abbrev o160 (P : Params) : Obj := ⟨(.type "tuple"), none, (.seq #[(.str "self" 441), (.str "strictness" 442), (.str "keep_all" 443), (.str "numbers" 444)] 0), #[]⟩
noncomputable abbrev o161 (P : Params) : Obj := ⟨(.type "tuple"), none, (.seq #[] 0), #[]⟩
noncomputable abbrev o162 (P : Params) : Obj := ⟨.none, none, (.func (fc (in_ 29 0) "LineHow.__init__")), #[]⟩
noncomputable abbrev o163 (P : Params) : Obj := ⟨(.type "code"), none, (.fields #[(.str "__init__" 438), (.str "LineHow.__init__" 439), (.str "/claim/cut.py" 440), (.int 47 0), (.int 4 0), (.int 0 0), (.int 0 0), (.int 3 0), (.ref 113), (.bool true), (.int 181 0), (.ref 114), .none, (.ref 115), (.ref 116), (.ref 117), (.int 445 0), (.int 47 0), (.str "/claim/cut.py" 446)]), #[]⟩
noncomputable abbrev o164 (P : Params) : Obj := ⟨(.type "function"), none, (.func (ff (in_ 29 0) "LineHow.__init__" 3 (.ref 112) (.str "unicore.linebreaks" 254) (.ref 118))), #[]⟩
noncomputable abbrev o165 (P : Params) : Obj := ⟨(.type "tuple"), none, (.seq #[(.str "keep_all" 448), (.str "numbers" 449), (.str "strictness" 450)] 0), #[]⟩
noncomputable abbrev o166 (P : Params) : Obj := ⟨(.type "dict"), none, (.dict #[e46 P, e47 P, e48 P, e49 P, (E P "__dict__" 453 (.ref 123)), (E P "__weakref__" 455 (.ref 124)), (E P "__doc__" 456 .none)] 4), #[]⟩
noncomputable abbrev o167 (P : Params) : Obj := ⟨(.type "type"), none, (.cls ⟨"LineHow", [(.type "object")], [(.ref 122), (.type "object")], 121, "LineHow", true, [], [], false, none, false⟩), #[none, none, (some (.str "LineHow" 424)), (some (.str "LineHow" 432)), (some (.builtin "object.__new__")), (some (.bool true))]⟩
noncomputable abbrev o168 (P : Params) : Obj := ⟨(.type "getset_descriptor"), none, (.fields #[(.str "__dict__" 452), (.ref 122), (.builtin "function.__dict__"), (.builtin "function.__dict__#set")]), #[]⟩
noncomputable abbrev o169 (P : Params) : Obj := ⟨(.type "getset_descriptor"), none, (.fields #[(.str "__weakref__" 454), (.ref 122), (.builtin "ExceptionGroup.__weakref__"), .none]), #[]⟩
noncomputable abbrev o170 (P : Params) : Obj := ⟨(.type "super"), none, (.fields #[(.ref 122), (.ref 122), (.ref 122)]), #[]⟩
noncomputable abbrev o171 (P : Params) : Obj := ⟨(.type "builtin_function_or_method"), none, (.fields #[(.builtin "object.__init_subclass__"), (.ref 122)]), #[]⟩
noncomputable abbrev o172 (P : Params) : Obj := ⟨(.type "tuple"), none, (.seq #[] 0), #[]⟩
noncomputable abbrev o173 (P : Params) : Obj := ⟨.none, none, (.fields #[]), #[]⟩
noncomputable abbrev o174 (P : Params) : Obj := ⟨(.type "tuple"), none, (.seq #[(.str "code" 462), (.str "first" 463), (.str "last" 464), (.str "word" 465)] 0), #[]⟩
noncomputable abbrev o175 (P : Params) : Obj := ⟨(.type "tuple"), none, (.seq #[] 0), #[]⟩
noncomputable abbrev o176 (P : Params) : Obj := ⟨.none, none, (.func (fc (at_ 30) "line_hangul")), #[]⟩
noncomputable abbrev o177 (P : Params) : Obj := ⟨(.type "code"), none, (.fields #[(.str "line_hangul" 459), (.str "line_hangul" 460), (.str "/claim/cut.py" 461), (.int 55 0), (.int 1 0), (.int 0 0), (.int 0 0), (.int 3 0), (.ref 127), (.bool true), (.int 181 0), (.ref 128), .none, (.ref 129), (.ref 130), (.ref 131), (.int 466 0), (.int 55 0), (.str "/claim/cut.py" 467)]), #[]⟩
noncomputable abbrev o178 (P : Params) : Obj := ⟨(.type "function"), none, (.func (ff (at_ 30) "line_hangul" 3 .none (.str "unicore.linebreaks" 254) (.ref 132))), #[]⟩
noncomputable abbrev o179 (P : Params) : Obj := ⟨(.type "tuple"), none, (.seq #[] 0), #[]⟩
noncomputable abbrev o180 (P : Params) : Obj := ⟨.none, none, (.fields #[]), #[]⟩
noncomputable abbrev o181 (P : Params) : Obj := ⟨(.type "tuple"), none, (.seq #[(.str "code" 472), (.str "data" 473), (.str "how" 474), (.str "word" 475)] 0), #[]⟩
noncomputable abbrev o182 (P : Params) : Obj := ⟨(.type "tuple"), none, (.seq #[] 0), #[]⟩
noncomputable abbrev o183 (P : Params) : Obj := ⟨.none, none, (.func (fc (at_ 31) "line_class")), #[]⟩
noncomputable abbrev o184 (P : Params) : Obj := ⟨(.type "code"), none, (.fields #[(.str "line_class" 469), (.str "line_class" 470), (.str "/claim/cut.py" 471), (.int 62 0), (.int 3 0), (.int 0 0), (.int 0 0), (.int 3 0), (.ref 134), (.bool true), (.int 181 0), (.ref 135), .none, (.ref 136), (.ref 137), (.ref 138), (.int 476 0), (.int 62 0), (.str "/claim/cut.py" 477)]), #[]⟩
noncomputable abbrev o185 (P : Params) : Obj := ⟨(.type "function"), none, (.func (ff (at_ 31) "line_class" 3 .none (.str "unicore.linebreaks" 254) (.ref 139))), #[]⟩
noncomputable abbrev o186 (P : Params) : Obj := ⟨(.type "dict"), none, (.dict #[e15 P, e0 P, e1 P, e2 P, e3 P, e4 P, e5 P, e6 P, e7 P, e8 P, e9 P, e10 P, e16 P, e17 P, e18 P, e19 P, e20 P, e21 P, e22 P, e23 P, e24 P, e25 P, e26 P, e30 P, e31 P, e32 P, e33 P, e34 P, e35 P, e36 P, e37 P, e38 P, e39 P, e40 P, e41 P, e42 P, e43 P, e44 P, e45 P, e50 P, e51 P] 41), #[]⟩
noncomputable abbrev o187 (P : Params) : Obj := ⟨.none, none, (.fields #[(.int 1 0), (.int 0 0), (.ref 20), (.int 6 0), (.int 0 0), (.ref 27), (.int 10 0), (.int 0 0), (.ref 48), (.int 12 0), (.int 0 0), (.ref 60), (.int 45 0), (.int 0 0), (.ref 110), (.int 55 0), (.int 0 0), (.ref 132), (.int 62 0), (.int 0 0), (.ref 139), (.int 73 0), (.int 0 0), (.ref 146), (.int 80 0), (.int 0 0), (.ref 167)]), #[]⟩
noncomputable abbrev o188 (P : Params) : Obj := ⟨(.type "tuple"), none, (.seq #[] 0), #[]⟩
noncomputable abbrev o189 (P : Params) : Obj := ⟨(.type "builtin_function_or_method"), none, (.fields #[(.builtin "type.__prepare__"), (.type "type")]), #[]⟩
noncomputable abbrev o190 (P : Params) : Obj := ⟨(.type "dict"), none, (.dict #[e52 P, (E P "__qualname__" 488 (.str "LineUnit" 487)), e53 P, e54 P, e55 P] 5), #[]⟩
noncomputable abbrev o191 (P : Params) : Obj := ⟨(.type "tuple"), none, (.seq #[] 0), #[]⟩
noncomputable abbrev o192 (P : Params) : Obj := ⟨.none, none, (.fields #[(.int 75 0), (.int 4 0), (.ref 153)]), #[]⟩
noncomputable abbrev o193 (P : Params) : Obj := ⟨(.type "code"), none, (.fields #[(.str "LineUnit" 481), (.str "LineUnit" 482), (.str "/claim/cut.py" 483), (.int 73 0), (.int 0 0), (.int 0 0), (.int 0 0), (.int 0 0), (.ref 144), (.bool false), (.int 181 0), (.ref 145), .none, .none, .none, .none, (.int 484 0), (.int 73 0), (.str "/claim/cut.py" 485)]), #[]⟩
noncomputable abbrev o194 (P : Params) : Obj := ⟨(.type "frame"), none, .plain, #[(some (.ref 146)), (some (.ref 3)), (some (.ref 143)), none, (some (.str "unicore.linebreaks" 254)), none, (some (.ref 0))]⟩
noncomputable abbrev o195 (P : Params) : Obj := ⟨(.type "tuple"), none, (.seq #[] 0), #[]⟩
noncomputable abbrev o196 (P : Params) : Obj := ⟨.none, none, (.fields #[]), #[]⟩
noncomputable abbrev o197 (P : Params) : Obj := ⟨(.type "tuple"), none, (.seq #[(.str "self" 494), (.str "word" 495), (.str "code" 496), (.str "at" 497)] 0), #[]⟩
noncomputable abbrev o198 (P : Params) : Obj := ⟨(.type "tuple"), none, (.seq #[] 0), #[]⟩
noncomputable abbrev o199 (P : Params) : Obj := ⟨.none, none, (.func (fc (in_ 32 0) "LineUnit.__init__")), #[]⟩
noncomputable abbrev o200 (P : Params) : Obj := ⟨(.type "code"), none, (.fields #[(.str "__init__" 491), (.str "LineUnit.__init__" 492), (.str "/claim/cut.py" 493), (.int 75 0), (.int 4 0), (.int 0 0), (.int 0 0), (.int 3 0), (.ref 148), (.bool true), (.int 181 0), (.ref 149), .none, (.ref 150), (.ref 151), (.ref 152), (.int 498 0), (.int 75 0), (.str "/claim/cut.py" 499)]), #[]⟩
noncomputable abbrev o201 (P : Params) : Obj := ⟨(.type "function"), none, (.func (ff (in_ 32 0) "LineUnit.__init__" 3 .none (.str "unicore.linebreaks" 254) (.ref 153))), #[]⟩
noncomputable abbrev o202 (P : Params) : Obj := ⟨(.type "tuple"), none, (.seq #[(.str "at" 501), (.str "code" 502), (.str "is_joined" 503), (.str "word" 504)] 0), #[]⟩
noncomputable abbrev o203 (P : Params) : Obj := ⟨(.type "dict"), none, (.dict #[e52 P, e53 P, e54 P, e55 P, (E P "__dict__" 507 (.ref 158)), (E P "__weakref__" 509 (.ref 159)), (E P "__doc__" 510 .none)] 4), #[]⟩
noncomputable abbrev o204 (P : Params) : Obj := ⟨(.type "type"), none, (.cls ⟨"LineUnit", [(.type "object")], [(.ref 157), (.type "object")], 156, "LineUnit", true, [], [], false, none, false⟩), #[none, none, (some (.str "LineUnit" 479)), (some (.str "LineUnit" 487)), (some (.builtin "object.__new__")), (some (.bool true))]⟩
noncomputable abbrev o205 (P : Params) : Obj := ⟨(.type "getset_descriptor"), none, (.fields #[(.str "__dict__" 506), (.ref 157), (.builtin "function.__dict__"), (.builtin "function.__dict__#set")]), #[]⟩
noncomputable abbrev o206 (P : Params) : Obj := ⟨(.type "getset_descriptor"), none, (.fields #[(.str "__weakref__" 508), (.ref 157), (.builtin "ExceptionGroup.__weakref__"), .none]), #[]⟩
noncomputable abbrev o207 (P : Params) : Obj := ⟨(.type "super"), none, (.fields #[(.ref 157), (.ref 157), (.ref 157)]), #[]⟩
noncomputable abbrev o208 (P : Params) : Obj := ⟨(.type "builtin_function_or_method"), none, (.fields #[(.builtin "object.__init_subclass__"), (.ref 157)]), #[]⟩
noncomputable abbrev o209 (P : Params) : Obj := ⟨(.type "tuple"), none, (.seq #[] 0), #[]⟩
noncomputable abbrev o210 (P : Params) : Obj := ⟨.none, none, (.fields #[]), #[]⟩
noncomputable abbrev o211 (P : Params) : Obj := ⟨(.type "tuple"), none, (.seq #[(.str "text" 516), (.str "data" 517), (.str "how" 518), (.str "found" 519), (.str "at" 520), (.str "code" 521), (.str "word" 522)] 0), #[]⟩
noncomputable abbrev o212 (P : Params) : Obj := ⟨(.type "tuple"), none, (.seq #[] 0), #[]⟩
noncomputable abbrev o213 (P : Params) : Obj := ⟨.none, none, (.func (fc (at_ 33) "line_units")), #[]⟩
noncomputable abbrev o214 (P : Params) : Obj := ⟨(.type "code"), none, (.fields #[(.str "line_units" 513), (.str "line_units" 514), (.str "/claim/cut.py" 515), (.int 80 0), (.int 3 0), (.int 0 0), (.int 0 0), (.int 3 0), (.ref 162), (.bool true), (.int 181 0), (.ref 163), .none, (.ref 164), (.ref 165), (.ref 166), (.int 523 0), (.int 80 0), (.str "/claim/cut.py" 524)]), #[]⟩
noncomputable abbrev o215 (P : Params) : Obj := ⟨(.type "function"), none, (.func (ff (at_ 33) "line_units" 3 .none (.str "unicore.linebreaks" 254) (.ref 167))), #[]⟩
noncomputable abbrev o216 (P : Params) : Obj := ⟨(.type "dict"), none, (.dict #[e15 P, e0 P, e1 P, e2 P, e3 P, e4 P, e5 P, e6 P, e7 P, e8 P, e9 P, e10 P, e16 P, e17 P, e18 P, e19 P, e20 P, e21 P, e22 P, e23 P, e24 P, e25 P, e26 P, e30 P, e31 P, e32 P, e33 P, e34 P, e35 P, e36 P, e37 P, e38 P, e39 P, e40 P, e41 P, e42 P, e43 P, e44 P, e45 P, e50 P, e51 P, e56 P, e57 P] 43), #[]⟩
noncomputable abbrev o217 (P : Params) : Obj := ⟨.none, none, (.fields #[(.int 1 0), (.int 0 0), (.ref 20), (.int 6 0), (.int 0 0), (.ref 27), (.int 10 0), (.int 0 0), (.ref 48), (.int 12 0), (.int 0 0), (.ref 60), (.int 45 0), (.int 0 0), (.ref 110), (.int 55 0), (.int 0 0), (.ref 132), (.int 62 0), (.int 0 0), (.ref 139), (.int 73 0), (.int 0 0), (.ref 146), (.int 80 0), (.int 0 0), (.ref 167), (.int 91 0), (.int 0 0), (.ref 174), (.int 120 0), (.int 0 0), (.ref 223)]), #[]⟩
noncomputable abbrev o218 (P : Params) : Obj := ⟨(.type "tuple"), none, (.seq #[] 0), #[]⟩
noncomputable abbrev o219 (P : Params) : Obj := ⟨(.type "builtin_function_or_method"), none, (.fields #[(.builtin "type.__prepare__"), (.type "type")]), #[]⟩
noncomputable abbrev o220 (P : Params) : Obj := ⟨(.type "dict"), none, (.dict #[e58 P, (E P "__qualname__" 535 (.str "LineView" 534)), e59 P, e60 P, e61 P, e62 P, e63 P, e64 P, e65 P] 9), #[]⟩
noncomputable abbrev o221 (P : Params) : Obj := ⟨(.type "tuple"), none, (.seq #[] 0), #[]⟩
noncomputable abbrev o222 (P : Params) : Obj := ⟨.none, none, (.fields #[(.int 93 0), (.int 4 0), (.ref 181), (.int 109 0), (.int 4 0), (.ref 188), (.int 112 0), (.int 4 0), (.ref 195), (.int 115 0), (.int 4 0), (.ref 202), (.int 118 0), (.int 4 0), (.ref 209)]), #[]⟩
noncomputable abbrev o223 (P : Params) : Obj := ⟨(.type "code"), none, (.fields #[(.str "LineView" 528), (.str "LineView" 529), (.str "/claim/cut.py" 530), (.int 91 0), (.int 0 0), (.int 0 0), (.int 0 0), (.int 0 0), (.ref 172), (.bool false), (.int 181 0), (.ref 173), .none, .none, .none, .none, (.int 531 0), (.int 91 0), (.str "/claim/cut.py" 532)]), #[]⟩
noncomputable abbrev o224 (P : Params) : Obj := ⟨(.type "frame"), none, .plain, #[(some (.ref 174)), (some (.ref 3)), (some (.ref 171)), none, (some (.str "unicore.linebreaks" 254)), none, (some (.ref 0))]⟩
noncomputable abbrev o225 (P : Params) : Obj := ⟨(.type "tuple"), none, (.seq #[] 0), #[]⟩
noncomputable abbrev o226 (P : Params) : Obj := ⟨.none, none, (.fields #[]), #[]⟩
noncomputable abbrev o227 (P : Params) : Obj := ⟨(.type "tuple"), none, (.seq #[(.str "self" 541), (.str "text" 542), (.str "data" 543), (.str "how" 544), (.str "last" 545), (.str "many" 546), (.str "is_number" 547), (.str "place" 548), (.str "unit" 549)] 0), #[]⟩
noncomputable abbrev o228 (P : Params) : Obj := ⟨(.type "tuple"), none, (.seq #[] 0), #[]⟩
noncomputable abbrev o229 (P : Params) : Obj := ⟨.none, none, (.func (fc (in_ 34 0) "LineView.__init__")), #[]⟩
noncomputable abbrev o230 (P : Params) : Obj := ⟨(.type "code"), none, (.fields #[(.str "__init__" 538), (.str "LineView.__init__" 539), (.str "/claim/cut.py" 540), (.int 93 0), (.int 4 0), (.int 0 0), (.int 0 0), (.int 3 0), (.ref 176), (.bool true), (.int 181 0), (.ref 177), .none, (.ref 178), (.ref 179), (.ref 180), (.int 550 0), (.int 93 0), (.str "/claim/cut.py" 551)]), #[]⟩
noncomputable abbrev o231 (P : Params) : Obj := ⟨(.type "function"), none, (.func (ff (in_ 34 0) "LineView.__init__" 3 .none (.str "unicore.linebreaks" 254) (.ref 181))), #[]⟩
noncomputable abbrev o232 (P : Params) : Obj := ⟨(.type "tuple"), none, (.seq #[] 0), #[]⟩
noncomputable abbrev o233 (P : Params) : Obj := ⟨.none, none, (.fields #[]), #[]⟩
noncomputable abbrev o234 (P : Params) : Obj := ⟨(.type "tuple"), none, (.seq #[(.str "self" 556), (.str "place" 557)] 0), #[]⟩
noncomputable abbrev o235 (P : Params) : Obj := ⟨(.type "tuple"), none, (.seq #[] 0), #[]⟩
noncomputable abbrev o236 (P : Params) : Obj := ⟨.none, none, (.func (fc (in_ 34 1) "LineView.word")), #[]⟩
noncomputable abbrev o237 (P : Params) : Obj := ⟨(.type "code"), none, (.fields #[(.str "word" 553), (.str "LineView.word" 554), (.str "/claim/cut.py" 555), (.int 109 0), (.int 2 0), (.int 0 0), (.int 0 0), (.int 3 0), (.ref 183), (.bool true), (.int 181 0), (.ref 184), .none, (.ref 185), (.ref 186), (.ref 187), (.int 558 0), (.int 109 0), (.str "/claim/cut.py" 559)]), #[]⟩
noncomputable abbrev o238 (P : Params) : Obj := ⟨(.type "function"), none, (.func (ff (in_ 34 1) "LineView.word" 3 .none (.str "unicore.linebreaks" 254) (.ref 188))), #[]⟩
noncomputable abbrev o239 (P : Params) : Obj := ⟨(.type "tuple"), none, (.seq #[] 0), #[]⟩
noncomputable abbrev o240 (P : Params) : Obj := ⟨.none, none, (.fields #[]), #[]⟩
noncomputable abbrev o241 (P : Params) : Obj := ⟨(.type "tuple"), none, (.seq #[(.str "self" 564), (.str "place" 565)] 0), #[]⟩
noncomputable abbrev o242 (P : Params) : Obj := ⟨(.type "tuple"), none, (.seq #[] 0), #[]⟩
noncomputable abbrev o243 (P : Params) : Obj := ⟨.none, none, (.func (fc (in_ 34 2) "LineView.solid_word")), #[]⟩
noncomputable abbrev o244 (P : Params) : Obj := ⟨(.type "code"), none, (.fields #[(.str "solid_word" 561), (.str "LineView.solid_word" 562), (.str "/claim/cut.py" 563), (.int 112 0), (.int 2 0), (.int 0 0), (.int 0 0), (.int 3 0), (.ref 190), (.bool true), (.int 181 0), (.ref 191), .none, (.ref 192), (.ref 193), (.ref 194), (.int 566 0), (.int 112 0), (.str "/claim/cut.py" 567)]), #[]⟩
noncomputable abbrev o245 (P : Params) : Obj := ⟨(.type "function"), none, (.func (ff (in_ 34 2) "LineView.solid_word" 3 .none (.str "unicore.linebreaks" 254) (.ref 195))), #[]⟩
noncomputable abbrev o246 (P : Params) : Obj := ⟨(.type "tuple"), none, (.seq #[] 0), #[]⟩
noncomputable abbrev o247 (P : Params) : Obj := ⟨.none, none, (.fields #[]), #[]⟩
noncomputable abbrev o248 (P : Params) : Obj := ⟨(.type "tuple"), none, (.seq #[(.str "self" 572), (.str "place" 573), (.str "kind" 574)] 0), #[]⟩
noncomputable abbrev o249 (P : Params) : Obj := ⟨(.type "tuple"), none, (.seq #[] 0), #[]⟩
noncomputable abbrev o250 (P : Params) : Obj := ⟨.none, none, (.func (fc (in_ 34 3) "LineView.is_quote")), #[]⟩
noncomputable abbrev o251 (P : Params) : Obj := ⟨(.type "code"), none, (.fields #[(.str "is_quote" 569), (.str "LineView.is_quote" 570), (.str "/claim/cut.py" 571), (.int 115 0), (.int 3 0), (.int 0 0), (.int 0 0), (.int 3 0), (.ref 197), (.bool true), (.int 181 0), (.ref 198), .none, (.ref 199), (.ref 200), (.ref 201), (.int 575 0), (.int 115 0), (.str "/claim/cut.py" 576)]), #[]⟩
noncomputable abbrev o252 (P : Params) : Obj := ⟨(.type "function"), none, (.func (ff (in_ 34 3) "LineView.is_quote" 3 .none (.str "unicore.linebreaks" 254) (.ref 202))), #[]⟩
noncomputable abbrev o253 (P : Params) : Obj := ⟨(.type "tuple"), none, (.seq #[] 0), #[]⟩
noncomputable abbrev o254 (P : Params) : Obj := ⟨.none, none, (.fields #[]), #[]⟩
noncomputable abbrev o255 (P : Params) : Obj := ⟨(.type "tuple"), none, (.seq #[(.str "self" 581), (.str "place" 582)] 0), #[]⟩
noncomputable abbrev o256 (P : Params) : Obj := ⟨(.type "tuple"), none, (.seq #[] 0), #[]⟩
noncomputable abbrev o257 (P : Params) : Obj := ⟨.none, none, (.func (fc (in_ 34 4) "LineView.is_narrow")), #[]⟩
noncomputable abbrev o258 (P : Params) : Obj := ⟨(.type "code"), none, (.fields #[(.str "is_narrow" 578), (.str "LineView.is_narrow" 579), (.str "/claim/cut.py" 580), (.int 118 0), (.int 2 0), (.int 0 0), (.int 0 0), (.int 3 0), (.ref 204), (.bool true), (.int 181 0), (.ref 205), .none, (.ref 206), (.ref 207), (.ref 208), (.int 583 0), (.int 118 0), (.str "/claim/cut.py" 584)]), #[]⟩
noncomputable abbrev o259 (P : Params) : Obj := ⟨(.type "function"), none, (.func (ff (in_ 34 4) "LineView.is_narrow" 3 .none (.str "unicore.linebreaks" 254) (.ref 209))), #[]⟩
noncomputable abbrev o260 (P : Params) : Obj := ⟨(.type "tuple"), none, (.seq #[(.str "data" 586), (.str "how" 587), (.str "numeric" 588), (.str "regional" 589), (.str "solid" 590), (.str "units" 591)] 0), #[]⟩
noncomputable abbrev o261 (P : Params) : Obj := ⟨(.type "dict"), none, (.dict #[e58 P, e59 P, e60 P, e61 P, e62 P, e63 P, e64 P, e65 P, (E P "__dict__" 594 (.ref 214)), (E P "__weakref__" 596 (.ref 215)), (E P "__doc__" 597 .none)] 4), #[]⟩
noncomputable abbrev o262 (P : Params) : Obj := ⟨(.type "type"), none, (.cls ⟨"LineView", [(.type "object")], [(.ref 213), (.type "object")], 212, "LineView", true, [], [], false, none, false⟩), #[none, none, (some (.str "LineView" 526)), (some (.str "LineView" 534)), (some (.builtin "object.__new__")), (some (.bool true))]⟩
noncomputable abbrev o263 (P : Params) : Obj := ⟨(.type "getset_descriptor"), none, (.fields #[(.str "__dict__" 593), (.ref 213), (.builtin "function.__dict__"), (.builtin "function.__dict__#set")]), #[]⟩
noncomputable abbrev o264 (P : Params) : Obj := ⟨(.type "getset_descriptor"), none, (.fields #[(.str "__weakref__" 595), (.ref 213), (.builtin "ExceptionGroup.__weakref__"), .none]), #[]⟩
noncomputable abbrev o265 (P : Params) : Obj := ⟨(.type "super"), none, (.fields #[(.ref 213), (.ref 213), (.ref 213)]), #[]⟩
noncomputable abbrev o266 (P : Params) : Obj := ⟨(.type "builtin_function_or_method"), none, (.fields #[(.builtin "object.__init_subclass__"), (.ref 213)]), #[]⟩
noncomputable abbrev o267 (P : Params) : Obj := ⟨(.type "tuple"), none, (.seq #[] 0), #[]⟩
noncomputable abbrev o268 (P : Params) : Obj := ⟨.none, none, (.fields #[]), #[]⟩
noncomputable abbrev o269 (P : Params) : Obj := ⟨(.type "tuple"), none, (.seq #[(.str "view" 603), (.str "at" 604), (.str "a" 605), (.str "b" 606)] 0), #[]⟩
noncomputable abbrev o270 (P : Params) : Obj := ⟨(.type "tuple"), none, (.seq #[] 0), #[]⟩
noncomputable abbrev o271 (P : Params) : Obj := ⟨.none, none, (.func (fc (at_ 35) "line_rule_hard")), #[]⟩
noncomputable abbrev o272 (P : Params) : Obj := ⟨(.type "code"), none, (.fields #[(.str "line_rule_hard" 600), (.str "line_rule_hard" 601), (.str "/claim/cut.py" 602), (.int 120 0), (.int 2 0), (.int 0 0), (.int 0 0), (.int 3 0), (.ref 218), (.bool true), (.int 181 0), (.ref 219), .none, (.ref 220), (.ref 221), (.ref 222), (.int 607 0), (.int 120 0), (.str "/claim/cut.py" 608)]), #[]⟩
noncomputable abbrev o273 (P : Params) : Obj := ⟨(.type "function"), none, (.func (ff (at_ 35) "line_rule_hard" 3 .none (.str "unicore.linebreaks" 254) (.ref 223))), #[]⟩
noncomputable abbrev o274 (P : Params) : Obj := ⟨(.type "dict"), none, (.dict #[e15 P, e0 P, e1 P, e2 P, e3 P, e4 P, e5 P, e6 P, e7 P, e8 P, e9 P, e10 P, e16 P, e17 P, e18 P, e19 P, e20 P, e21 P, e22 P, e23 P, e24 P, e25 P, e26 P, e30 P, e31 P, e32 P, e33 P, e34 P, e35 P, e36 P, e37 P, e38 P, e39 P, e40 P, e41 P, e42 P, e43 P, e44 P, e45 P, e50 P, e51 P, e56 P, e57 P, e66 P, e67 P, e68 P, e69 P, e70 P, e71 P, e72 P, e73 P, e74 P, e75 P, e76 P, e77 P] 55), #[]⟩
noncomputable abbrev o275 (P : Params) : Obj := ⟨.none, none, (.fields #[(.int 1 0), (.int 0 0), (.ref 20), (.int 6 0), (.int 0 0), (.ref 27), (.int 10 0), (.int 0 0), (.ref 48), (.int 12 0), (.int 0 0), (.ref 60), (.int 45 0), (.int 0 0), (.ref 110), (.int 55 0), (.int 0 0), (.ref 132), (.int 62 0), (.int 0 0), (.ref 139), (.int 73 0), (.int 0 0), (.ref 146), (.int 80 0), (.int 0 0), (.ref 167), (.int 91 0), (.int 0 0), (.ref 174), (.int 120 0), (.int 0 0), (.ref 223), (.int 129 0), (.int 0 0), (.ref 230), (.int 135 0), (.int 0 0), (.ref 237), (.int 142 0), (.int 0 0), (.ref 244), (.int 149 0), (.int 0 0), (.ref 251), (.int 156 0), (.int 0 0), (.ref 258), (.int 163 0), (.int 0 0), (.ref 265), (.int 177 0), (.int 0 0), (.ref 272), (.int 186 0), (.int 0 0), (.ref 279), (.int 188 0), (.int 0 0), (.ref 286), (.int 199 0), (.int 0 0), (.ref 293), (.int 203 0), (.int 0 0), (.ref 300), (.int 210 0), (.int 0 0), (.ref 307)]), #[]⟩
noncomputable abbrev o276 (P : Params) : Obj := ⟨(.type "tuple"), none, (.seq #[] 0), #[]⟩
noncomputable abbrev o277 (P : Params) : Obj := ⟨.none, none, (.fields #[]), #[]⟩
noncomputable abbrev o278 (P : Params) : Obj := ⟨(.type "tuple"), none, (.seq #[(.str "view" 613), (.str "at" 614)] 0), #[]⟩
noncomputable abbrev o279 (P : Params) : Obj := ⟨(.type "tuple"), none, (.seq #[] 0), #[]⟩
noncomputable abbrev o280 (P : Params) : Obj := ⟨.none, none, (.func (fc (at_ 36) "line_rule_spaces")), #[]⟩
noncomputable abbrev o281 (P : Params) : Obj := ⟨(.type "code"), none, (.fields #[(.str "line_rule_spaces" 610), (.str "line_rule_spaces" 611), (.str "/claim/cut.py" 612), (.int 129 0), (.int 2 0), (.int 0 0), (.int 0 0), (.int 3 0), (.ref 225), (.bool true), (.int 181 0), (.ref 226), .none, (.ref 227), (.ref 228), (.ref 229), (.int 615 0), (.int 129 0), (.str "/claim/cut.py" 616)]), #[]⟩
noncomputable abbrev o282 (P : Params) : Obj := ⟨(.type "function"), none, (.func (ff (at_ 36) "line_rule_spaces" 3 .none (.str "unicore.linebreaks" 254) (.ref 230))), #[]⟩
noncomputable abbrev o283 (P : Params) : Obj := ⟨(.type "tuple"), none, (.seq #[] 0), #[]⟩
noncomputable abbrev o284 (P : Params) : Obj := ⟨.none, none, (.fields #[]), #[]⟩
noncomputable abbrev o285 (P : Params) : Obj := ⟨(.type "tuple"), none, (.seq #[(.str "view" 621), (.str "at" 622), (.str "a" 623), (.str "b" 624)] 0), #[]⟩
noncomputable abbrev o286 (P : Params) : Obj := ⟨(.type "tuple"), none, (.seq #[] 0), #[]⟩
noncomputable abbrev o287 (P : Params) : Obj := ⟨.none, none, (.func (fc (at_ 37) "line_rule_glue")), #[]⟩
noncomputable abbrev o288 (P : Params) : Obj := ⟨(.type "code"), none, (.fields #[(.str "line_rule_glue" 618), (.str "line_rule_glue" 619), (.str "/claim/cut.py" 620), (.int 135 0), (.int 2 0), (.int 0 0), (.int 0 0), (.int 3 0), (.ref 232), (.bool true), (.int 181 0), (.ref 233), .none, (.ref 234), (.ref 235), (.ref 236), (.int 625 0), (.int 135 0), (.str "/claim/cut.py" 626)]), #[]⟩
noncomputable abbrev o289 (P : Params) : Obj := ⟨(.type "function"), none, (.func (ff (at_ 37) "line_rule_glue" 3 .none (.str "unicore.linebreaks" 254) (.ref 237))), #[]⟩
noncomputable abbrev o290 (P : Params) : Obj := ⟨(.type "tuple"), none, (.seq #[] 0), #[]⟩
noncomputable abbrev o291 (P : Params) : Obj := ⟨.none, none, (.fields #[]), #[]⟩
noncomputable abbrev o292 (P : Params) : Obj := ⟨(.type "tuple"), none, (.seq #[(.str "view" 631), (.str "at" 632), (.str "b" 633), (.str "is_left" 634)] 0), #[]⟩
noncomputable abbrev o293 (P : Params) : Obj := ⟨(.type "tuple"), none, (.seq #[] 0), #[]⟩
noncomputable abbrev o294 (P : Params) : Obj := ⟨.none, none, (.func (fc (at_ 38) "line_rule_closing")), #[]⟩
noncomputable abbrev o295 (P : Params) : Obj := ⟨(.type "code"), none, (.fields #[(.str "line_rule_closing" 628), (.str "line_rule_closing" 629), (.str "/claim/cut.py" 630), (.int 142 0), (.int 2 0), (.int 0 0), (.int 0 0), (.int 3 0), (.ref 239), (.bool true), (.int 181 0), (.ref 240), .none, (.ref 241), (.ref 242), (.ref 243), (.int 635 0), (.int 142 0), (.str "/claim/cut.py" 636)]), #[]⟩
noncomputable abbrev o296 (P : Params) : Obj := ⟨(.type "function"), none, (.func (ff (at_ 38) "line_rule_closing" 3 .none (.str "unicore.linebreaks" 254) (.ref 244))), #[]⟩
noncomputable abbrev o297 (P : Params) : Obj := ⟨(.type "tuple"), none, (.seq #[] 0), #[]⟩
noncomputable abbrev o298 (P : Params) : Obj := ⟨.none, none, (.fields #[]), #[]⟩
noncomputable abbrev o299 (P : Params) : Obj := ⟨(.type "tuple"), none, (.seq #[(.str "view" 641), (.str "at" 642), (.str "quote" 643)] 0), #[]⟩
noncomputable abbrev o300 (P : Params) : Obj := ⟨(.type "tuple"), none, (.seq #[] 0), #[]⟩
noncomputable abbrev o301 (P : Params) : Obj := ⟨.none, none, (.func (fc (at_ 39) "line_rule_quotes")), #[]⟩
noncomputable abbrev o302 (P : Params) : Obj := ⟨(.type "code"), none, (.fields #[(.str "line_rule_quotes" 638), (.str "line_rule_quotes" 639), (.str "/claim/cut.py" 640), (.int 149 0), (.int 2 0), (.int 0 0), (.int 0 0), (.int 3 0), (.ref 246), (.bool true), (.int 181 0), (.ref 247), .none, (.ref 248), (.ref 249), (.ref 250), (.int 644 0), (.int 149 0), (.str "/claim/cut.py" 645)]), #[]⟩
noncomputable abbrev o303 (P : Params) : Obj := ⟨(.type "function"), none, (.func (ff (at_ 39) "line_rule_quotes" 3 .none (.str "unicore.linebreaks" 254) (.ref 251))), #[]⟩
noncomputable abbrev o304 (P : Params) : Obj := ⟨(.type "tuple"), none, (.seq #[] 0), #[]⟩
noncomputable abbrev o305 (P : Params) : Obj := ⟨.none, none, (.fields #[]), #[]⟩
noncomputable abbrev o306 (P : Params) : Obj := ⟨(.type "tuple"), none, (.seq #[(.str "view" 650), (.str "at" 651), (.str "solid" 652), (.str "b" 653)] 0), #[]⟩
noncomputable abbrev o307 (P : Params) : Obj := ⟨(.type "tuple"), none, (.seq #[] 0), #[]⟩
noncomputable abbrev o308 (P : Params) : Obj := ⟨.none, none, (.func (fc (at_ 40) "line_rule_over_spaces")), #[]⟩
noncomputable abbrev o309 (P : Params) : Obj := ⟨(.type "code"), none, (.fields #[(.str "line_rule_over_spaces" 647), (.str "line_rule_over_spaces" 648), (.str "/claim/cut.py" 649), (.int 156 0), (.int 2 0), (.int 0 0), (.int 0 0), (.int 3 0), (.ref 253), (.bool true), (.int 181 0), (.ref 254), .none, (.ref 255), (.ref 256), (.ref 257), (.int 654 0), (.int 156 0), (.str "/claim/cut.py" 655)]), #[]⟩
noncomputable abbrev o310 (P : Params) : Obj := ⟨(.type "function"), none, (.func (ff (at_ 40) "line_rule_over_spaces" 3 .none (.str "unicore.linebreaks" 254) (.ref 258))), #[]⟩
noncomputable abbrev o311 (P : Params) : Obj := ⟨(.type "tuple"), none, (.seq #[] 0), #[]⟩
noncomputable abbrev o312 (P : Params) : Obj := ⟨.none, none, (.fields #[]), #[]⟩
noncomputable abbrev o313 (P : Params) : Obj := ⟨(.type "tuple"), none, (.seq #[(.str "view" 660), (.str "at" 661), (.str "a" 662), (.str "b" 663), (.str "is_parted" 664)] 0), #[]⟩
noncomputable abbrev o314 (P : Params) : Obj := ⟨(.type "tuple"), none, (.seq #[] 0), #[]⟩
noncomputable abbrev o315 (P : Params) : Obj := ⟨.none, none, (.func (fc (at_ 41) "line_rule_signs")), #[]⟩
noncomputable abbrev o316 (P : Params) : Obj := ⟨(.type "code"), none, (.fields #[(.str "line_rule_signs" 657), (.str "line_rule_signs" 658), (.str "/claim/cut.py" 659), (.int 163 0), (.int 2 0), (.int 0 0), (.int 0 0), (.int 3 0), (.ref 260), (.bool true), (.int 181 0), (.ref 261), .none, (.ref 262), (.ref 263), (.ref 264), (.int 665 0), (.int 163 0), (.str "/claim/cut.py" 666)]), #[]⟩
noncomputable abbrev o317 (P : Params) : Obj := ⟨(.type "function"), none, (.func (ff (at_ 41) "line_rule_signs" 3 .none (.str "unicore.linebreaks" 254) (.ref 265))), #[]⟩
noncomputable abbrev o318 (P : Params) : Obj := ⟨(.type "tuple"), none, (.seq #[] 0), #[]⟩
noncomputable abbrev o319 (P : Params) : Obj := ⟨.none, none, (.fields #[]), #[]⟩
noncomputable abbrev o320 (P : Params) : Obj := ⟨(.type "tuple"), none, (.seq #[(.str "view" 671), (.str "at" 672), (.str "a" 673), (.str "b" 674)] 0), #[]⟩
noncomputable abbrev o321 (P : Params) : Obj := ⟨(.type "tuple"), none, (.seq #[] 0), #[]⟩
noncomputable abbrev o322 (P : Params) : Obj := ⟨.none, none, (.func (fc (at_ 42) "line_rule_letters")), #[]⟩
noncomputable abbrev o323 (P : Params) : Obj := ⟨(.type "code"), none, (.fields #[(.str "line_rule_letters" 668), (.str "line_rule_letters" 669), (.str "/claim/cut.py" 670), (.int 177 0), (.int 2 0), (.int 0 0), (.int 0 0), (.int 3 0), (.ref 267), (.bool true), (.int 181 0), (.ref 268), .none, (.ref 269), (.ref 270), (.ref 271), (.int 675 0), (.int 177 0), (.str "/claim/cut.py" 676)]), #[]⟩
noncomputable abbrev o324 (P : Params) : Obj := ⟨(.type "function"), none, (.func (ff (at_ 42) "line_rule_letters" 3 .none (.str "unicore.linebreaks" 254) (.ref 272))), #[]⟩
noncomputable abbrev o325 (P : Params) : Obj := ⟨(.type "tuple"), none, (.seq #[] 0), #[]⟩
noncomputable abbrev o326 (P : Params) : Obj := ⟨.none, none, (.fields #[]), #[]⟩
noncomputable abbrev o327 (P : Params) : Obj := ⟨(.type "tuple"), none, (.seq #[(.str "view" 681), (.str "place" 682)] 0), #[]⟩
noncomputable abbrev o328 (P : Params) : Obj := ⟨(.type "tuple"), none, (.seq #[] 0), #[]⟩
noncomputable abbrev o329 (P : Params) : Obj := ⟨.none, none, (.func (fc (at_ 43) "line_is_number")), #[]⟩
noncomputable abbrev o330 (P : Params) : Obj := ⟨(.type "code"), none, (.fields #[(.str "line_is_number" 678), (.str "line_is_number" 679), (.str "/claim/cut.py" 680), (.int 186 0), (.int 2 0), (.int 0 0), (.int 0 0), (.int 3 0), (.ref 274), (.bool true), (.int 181 0), (.ref 275), .none, (.ref 276), (.ref 277), (.ref 278), (.int 683 0), (.int 186 0), (.str "/claim/cut.py" 684)]), #[]⟩
noncomputable abbrev o331 (P : Params) : Obj := ⟨(.type "function"), none, (.func (ff (at_ 43) "line_is_number" 3 .none (.str "unicore.linebreaks" 254) (.ref 279))), #[]⟩
noncomputable abbrev o332 (P : Params) : Obj := ⟨(.type "tuple"), none, (.seq #[] 0), #[]⟩
noncomputable abbrev o333 (P : Params) : Obj := ⟨.none, none, (.fields #[]), #[]⟩
noncomputable abbrev o334 (P : Params) : Obj := ⟨(.type "tuple"), none, (.seq #[(.str "view" 689), (.str "at" 690), (.str "a" 691), (.str "b" 692), (.str "is_begun" 693), (.str "end" 694)] 0), #[]⟩
noncomputable abbrev o335 (P : Params) : Obj := ⟨(.type "tuple"), none, (.seq #[] 0), #[]⟩
noncomputable abbrev o336 (P : Params) : Obj := ⟨.none, none, (.func (fc (at_ 44) "line_rule_expression")), #[]⟩
noncomputable abbrev o337 (P : Params) : Obj := ⟨(.type "code"), none, (.fields #[(.str "line_rule_expression" 686), (.str "line_rule_expression" 687), (.str "/claim/cut.py" 688), (.int 188 0), (.int 2 0), (.int 0 0), (.int 0 0), (.int 3 0), (.ref 281), (.bool true), (.int 181 0), (.ref 282), .none, (.ref 283), (.ref 284), (.ref 285), (.int 695 0), (.int 188 0), (.str "/claim/cut.py" 696)]), #[]⟩
noncomputable abbrev o338 (P : Params) : Obj := ⟨(.type "function"), none, (.func (ff (at_ 44) "line_rule_expression" 3 .none (.str "unicore.linebreaks" 254) (.ref 286))), #[]⟩
noncomputable abbrev o339 (P : Params) : Obj := ⟨(.type "tuple"), none, (.seq #[] 0), #[]⟩
noncomputable abbrev o340 (P : Params) : Obj := ⟨.none, none, (.fields #[]), #[]⟩
noncomputable abbrev o341 (P : Params) : Obj := ⟨(.type "tuple"), none, (.seq #[(.str "view" 701), (.str "at" 702)] 0), #[]⟩
noncomputable abbrev o342 (P : Params) : Obj := ⟨(.type "tuple"), none, (.seq #[] 0), #[]⟩
noncomputable abbrev o343 (P : Params) : Obj := ⟨.none, none, (.func (fc (at_ 45) "line_rule_numbers")), #[]⟩
noncomputable abbrev o344 (P : Params) : Obj := ⟨(.type "code"), none, (.fields #[(.str "line_rule_numbers" 698), (.str "line_rule_numbers" 699), (.str "/claim/cut.py" 700), (.int 199 0), (.int 2 0), (.int 0 0), (.int 0 0), (.int 3 0), (.ref 288), (.bool true), (.int 181 0), (.ref 289), .none, (.ref 290), (.ref 291), (.ref 292), (.int 703 0), (.int 199 0), (.str "/claim/cut.py" 704)]), #[]⟩
noncomputable abbrev o345 (P : Params) : Obj := ⟨(.type "function"), none, (.func (ff (at_ 45) "line_rule_numbers" 3 .none (.str "unicore.linebreaks" 254) (.ref 293))), #[]⟩
noncomputable abbrev o346 (P : Params) : Obj := ⟨(.type "tuple"), none, (.seq #[] 0), #[]⟩
noncomputable abbrev o347 (P : Params) : Obj := ⟨.none, none, (.fields #[]), #[]⟩
noncomputable abbrev o348 (P : Params) : Obj := ⟨(.type "tuple"), none, (.seq #[(.str "view" 709), (.str "at" 710), (.str "a" 711), (.str "b" 712)] 0), #[]⟩
noncomputable abbrev o349 (P : Params) : Obj := ⟨(.type "tuple"), none, (.seq #[] 0), #[]⟩
noncomputable abbrev o350 (P : Params) : Obj := ⟨.none, none, (.func (fc (at_ 46) "line_rule_syllables")), #[]⟩
noncomputable abbrev o351 (P : Params) : Obj := ⟨(.type "code"), none, (.fields #[(.str "line_rule_syllables" 706), (.str "line_rule_syllables" 707), (.str "/claim/cut.py" 708), (.int 203 0), (.int 2 0), (.int 0 0), (.int 0 0), (.int 3 0), (.ref 295), (.bool true), (.int 181 0), (.ref 296), .none, (.ref 297), (.ref 298), (.ref 299), (.int 713 0), (.int 203 0), (.str "/claim/cut.py" 714)]), #[]⟩
noncomputable abbrev o352 (P : Params) : Obj := ⟨(.type "function"), none, (.func (ff (at_ 46) "line_rule_syllables" 3 .none (.str "unicore.linebreaks" 254) (.ref 300))), #[]⟩
noncomputable abbrev o353 (P : Params) : Obj := ⟨(.type "tuple"), none, (.seq #[] 0), #[]⟩
noncomputable abbrev o354 (P : Params) : Obj := ⟨.none, none, (.fields #[]), #[]⟩
noncomputable abbrev o355 (P : Params) : Obj := ⟨(.type "tuple"), none, (.seq #[(.str "view" 719), (.str "place" 720), (.str "words" 721)] 0), #[]⟩
noncomputable abbrev o356 (P : Params) : Obj := ⟨(.type "tuple"), none, (.seq #[] 0), #[]⟩
noncomputable abbrev o357 (P : Params) : Obj := ⟨.none, none, (.func (fc (at_ 47) "line_is_aksara")), #[]⟩
noncomputable abbrev o358 (P : Params) : Obj := ⟨(.type "code"), none, (.fields #[(.str "line_is_aksara" 716), (.str "line_is_aksara" 717), (.str "/claim/cut.py" 718), (.int 210 0), (.int 3 0), (.int 0 0), (.int 0 0), (.int 3 0), (.ref 302), (.bool true), (.int 181 0), (.ref 303), .none, (.ref 304), (.ref 305), (.ref 306), (.int 722 0), (.int 210 0), (.str "/claim/cut.py" 723)]), #[]⟩
noncomputable abbrev o359 (P : Params) : Obj := ⟨(.type "function"), none, (.func (ff (at_ 47) "line_is_aksara" 3 .none (.str "unicore.linebreaks" 254) (.ref 307))), #[]⟩
noncomputable abbrev o360 (P : Params) : Obj := ⟨(.type "dict"), none, (.dict #[e15 P, e0 P, e1 P, e2 P, e3 P, e4 P, e5 P, e6 P, e7 P, e8 P, e9 P, e10 P, e16 P, e17 P, e18 P, e19 P, e20 P, e21 P, e22 P, e23 P, e24 P, e25 P, e26 P, e30 P, e31 P, e32 P, e33 P, e34 P, e35 P, e36 P, e37 P, e38 P, e39 P, e40 P, e41 P, e42 P, e43 P, e44 P, e45 P, e50 P, e51 P, e56 P, e57 P, e66 P, e67 P, e68 P, e69 P, e70 P, e71 P, e72 P, e73 P, e74 P, e75 P, e76 P, e77 P, e78 P, e79 P, e80 P, e81 P, e82 P] 60), #[]⟩
noncomputable abbrev o361 (P : Params) : Obj := ⟨.none, none, (.fields #[(.int 1 0), (.int 0 0), (.ref 20), (.int 6 0), (.int 0 0), (.ref 27), (.int 10 0), (.int 0 0), (.ref 48), (.int 12 0), (.int 0 0), (.ref 60), (.int 45 0), (.int 0 0), (.ref 110), (.int 55 0), (.int 0 0), (.ref 132), (.int 62 0), (.int 0 0), (.ref 139), (.int 73 0), (.int 0 0), (.ref 146), (.int 80 0), (.int 0 0), (.ref 167), (.int 91 0), (.int 0 0), (.ref 174), (.int 120 0), (.int 0 0), (.ref 223), (.int 129 0), (.int 0 0), (.ref 230), (.int 135 0), (.int 0 0), (.ref 237), (.int 142 0), (.int 0 0), (.ref 244), (.int 149 0), (.int 0 0), (.ref 251), (.int 156 0), (.int 0 0), (.ref 258), (.int 163 0), (.int 0 0), (.ref 265), (.int 177 0), (.int 0 0), (.ref 272), (.int 186 0), (.int 0 0), (.ref 279), (.int 188 0), (.int 0 0), (.ref 286), (.int 199 0), (.int 0 0), (.ref 293), (.int 203 0), (.int 0 0), (.ref 300), (.int 210 0), (.int 0 0), (.ref 307), (.int 214 0), (.int 0 0), (.ref 314), (.int 221 0), (.int 0 0), (.ref 321), (.int 230 0), (.int 0 0), (.ref 328), (.int 241 0), (.int 0 0), (.ref 335), (.int 247 0), (.int 0 0), (.ref 342)]), #[]⟩
noncomputable abbrev o362 (P : Params) : Obj := ⟨(.type "tuple"), none, (.seq #[] 0), #[]⟩
noncomputable abbrev o363 (P : Params) : Obj := ⟨.none, none, (.fields #[]), #[]⟩
noncomputable abbrev o364 (P : Params) : Obj := ⟨(.type "tuple"), none, (.seq #[(.str "view" 728), (.str "at" 729), (.str "a" 730), (.str "b" 731), (.str "every" 732), (.str "is_left" 733), (.str "is_right" 734), (.str "is_held" 735)] 0), #[]⟩
noncomputable abbrev o365 (P : Params) : Obj := ⟨(.type "tuple"), none, (.seq #[] 0), #[]⟩
noncomputable abbrev o366 (P : Params) : Obj := ⟨.none, none, (.func (fc (at_ 48) "line_rule_aksaras")), #[]⟩
noncomputable abbrev o367 (P : Params) : Obj := ⟨(.type "code"), none, (.fields #[(.str "line_rule_aksaras" 725), (.str "line_rule_aksaras" 726), (.str "/claim/cut.py" 727), (.int 214 0), (.int 2 0), (.int 0 0), (.int 0 0), (.int 3 0), (.ref 309), (.bool true), (.int 181 0), (.ref 310), .none, (.ref 311), (.ref 312), (.ref 313), (.int 736 0), (.int 214 0), (.str "/claim/cut.py" 737)]), #[]⟩
noncomputable abbrev o368 (P : Params) : Obj := ⟨(.type "function"), none, (.func (ff (at_ 48) "line_rule_aksaras" 3 .none (.str "unicore.linebreaks" 254) (.ref 314))), #[]⟩
noncomputable abbrev o369 (P : Params) : Obj := ⟨(.type "tuple"), none, (.seq #[] 0), #[]⟩
noncomputable abbrev o370 (P : Params) : Obj := ⟨.none, none, (.fields #[]), #[]⟩
noncomputable abbrev o371 (P : Params) : Obj := ⟨(.type "tuple"), none, (.seq #[(.str "view" 742), (.str "at" 743), (.str "a" 744), (.str "b" 745)] 0), #[]⟩
noncomputable abbrev o372 (P : Params) : Obj := ⟨(.type "tuple"), none, (.seq #[] 0), #[]⟩
noncomputable abbrev o373 (P : Params) : Obj := ⟨.none, none, (.func (fc (at_ 49) "line_rule_brackets")), #[]⟩
noncomputable abbrev o374 (P : Params) : Obj := ⟨(.type "code"), none, (.fields #[(.str "line_rule_brackets" 739), (.str "line_rule_brackets" 740), (.str "/claim/cut.py" 741), (.int 221 0), (.int 2 0), (.int 0 0), (.int 0 0), (.int 3 0), (.ref 316), (.bool true), (.int 181 0), (.ref 317), .none, (.ref 318), (.ref 319), (.ref 320), (.int 746 0), (.int 221 0), (.str "/claim/cut.py" 747)]), #[]⟩
noncomputable abbrev o375 (P : Params) : Obj := ⟨(.type "function"), none, (.func (ff (at_ 49) "line_rule_brackets" 3 .none (.str "unicore.linebreaks" 254) (.ref 321))), #[]⟩
noncomputable abbrev o376 (P : Params) : Obj := ⟨(.type "tuple"), none, (.seq #[] 0), #[]⟩
noncomputable abbrev o377 (P : Params) : Obj := ⟨.none, none, (.fields #[]), #[]⟩
noncomputable abbrev o378 (P : Params) : Obj := ⟨(.type "tuple"), none, (.seq #[(.str "view" 752), (.str "at" 753), (.str "a" 754), (.str "b" 755), (.str "code" 756)] 0), #[]⟩
noncomputable abbrev o379 (P : Params) : Obj := ⟨(.type "tuple"), none, (.seq #[] 0), #[]⟩
noncomputable abbrev o380 (P : Params) : Obj := ⟨.none, none, (.func (fc (at_ 50) "line_rule_pictures")), #[]⟩
noncomputable abbrev o381 (P : Params) : Obj := ⟨(.type "code"), none, (.fields #[(.str "line_rule_pictures" 749), (.str "line_rule_pictures" 750), (.str "/claim/cut.py" 751), (.int 230 0), (.int 2 0), (.int 0 0), (.int 0 0), (.int 3 0), (.ref 323), (.bool true), (.int 181 0), (.ref 324), .none, (.ref 325), (.ref 326), (.ref 327), (.int 757 0), (.int 230 0), (.str "/claim/cut.py" 758)]), #[]⟩
noncomputable abbrev o382 (P : Params) : Obj := ⟨(.type "function"), none, (.func (ff (at_ 50) "line_rule_pictures" 3 .none (.str "unicore.linebreaks" 254) (.ref 328))), #[]⟩
noncomputable abbrev o383 (P : Params) : Obj := ⟨(.type "tuple"), none, (.seq #[] 0), #[]⟩
noncomputable abbrev o384 (P : Params) : Obj := ⟨.none, none, (.fields #[]), #[]⟩
noncomputable abbrev o385 (P : Params) : Obj := ⟨(.type "tuple"), none, (.seq #[(.str "view" 763), (.str "at" 764), (.str "told" 765)] 0), #[]⟩
noncomputable abbrev o386 (P : Params) : Obj := ⟨(.type "tuple"), none, (.seq #[] 0), #[]⟩
noncomputable abbrev o387 (P : Params) : Obj := ⟨.none, none, (.func (fc (at_ 51) "line_verdict")), #[]⟩
noncomputable abbrev o388 (P : Params) : Obj := ⟨(.type "code"), none, (.fields #[(.str "line_verdict" 760), (.str "line_verdict" 761), (.str "/claim/cut.py" 762), (.int 241 0), (.int 2 0), (.int 0 0), (.int 0 0), (.int 3 0), (.ref 330), (.bool true), (.int 181 0), (.ref 331), .none, (.ref 332), (.ref 333), (.ref 334), (.int 766 0), (.int 241 0), (.str "/claim/cut.py" 767)]), #[]⟩
noncomputable abbrev o389 (P : Params) : Obj := ⟨(.type "function"), none, (.func (ff (at_ 51) "line_verdict" 3 .none (.str "unicore.linebreaks" 254) (.ref 335))), #[]⟩
noncomputable abbrev o390 (P : Params) : Obj := ⟨(.type "tuple"), none, (.seq #[] 0), #[]⟩
noncomputable abbrev o391 (P : Params) : Obj := ⟨.none, none, (.fields #[]), #[]⟩
noncomputable abbrev o392 (P : Params) : Obj := ⟨(.type "tuple"), none, (.seq #[(.str "text" 772), (.str "data" 773), (.str "how" 774), (.str "found" 775), (.str "view" 776), (.str "at" 777)] 0), #[]⟩
noncomputable abbrev o393 (P : Params) : Obj := ⟨(.type "tuple"), none, (.seq #[] 0), #[]⟩
noncomputable abbrev o394 (P : Params) : Obj := ⟨.none, none, (.func (fc (at_ 52) "line_verdicts")), #[]⟩
noncomputable abbrev o395 (P : Params) : Obj := ⟨(.type "code"), none, (.fields #[(.str "line_verdicts" 769), (.str "line_verdicts" 770), (.str "/claim/cut.py" 771), (.int 247 0), (.int 3 0), (.int 0 0), (.int 0 0), (.int 3 0), (.ref 337), (.bool true), (.int 181 0), (.ref 338), .none, (.ref 339), (.ref 340), (.ref 341), (.int 778 0), (.int 247 0), (.str "/claim/cut.py" 779)]), #[]⟩
noncomputable abbrev o396 (P : Params) : Obj := ⟨(.type "function"), none, (.func (ff (at_ 52) "line_verdicts" 3 .none (.str "unicore.linebreaks" 254) (.ref 342))), #[]⟩
noncomputable abbrev o397 (P : Params) : Obj := ⟨(.type "dict"), none, (.dict #[(E P "__name__" 165 (.str "unicore.ranges" 854)), e0 P, e1 P, e2 P, e3 P, e4 P, e5 P, e6 P, e7 P, e8 P, e9 P, e10 P, e16 P, e17 P, e18 P, e19 P, e20 P, e21 P, e22 P, e23 P, e24 P, e25 P, e26 P, e30 P, e31 P, e32 P, e33 P, e34 P, e35 P, e36 P, e37 P, e38 P, e39 P, e40 P, e41 P, e42 P, e43 P, e44 P, e45 P, e50 P, e51 P, e56 P, e57 P, e66 P, e67 P, e68 P, e69 P, e70 P, e71 P, e72 P, e73 P, e74 P, e75 P, e76 P, e77 P, e78 P, e79 P, e80 P, e81 P, e82 P, e83 P] 61), #[]⟩
noncomputable abbrev o398 (P : Params) : Obj := ⟨.none, none, (.fields #[(.int 1 0), (.int 0 0), (.ref 20), (.int 6 0), (.int 0 0), (.ref 27), (.int 10 0), (.int 0 0), (.ref 48), (.int 12 0), (.int 0 0), (.ref 60), (.int 45 0), (.int 0 0), (.ref 110), (.int 55 0), (.int 0 0), (.ref 132), (.int 62 0), (.int 0 0), (.ref 139), (.int 73 0), (.int 0 0), (.ref 146), (.int 80 0), (.int 0 0), (.ref 167), (.int 91 0), (.int 0 0), (.ref 174), (.int 120 0), (.int 0 0), (.ref 223), (.int 129 0), (.int 0 0), (.ref 230), (.int 135 0), (.int 0 0), (.ref 237), (.int 142 0), (.int 0 0), (.ref 244), (.int 149 0), (.int 0 0), (.ref 251), (.int 156 0), (.int 0 0), (.ref 258), (.int 163 0), (.int 0 0), (.ref 265), (.int 177 0), (.int 0 0), (.ref 272), (.int 186 0), (.int 0 0), (.ref 279), (.int 188 0), (.int 0 0), (.ref 286), (.int 199 0), (.int 0 0), (.ref 293), (.int 203 0), (.int 0 0), (.ref 300), (.int 210 0), (.int 0 0), (.ref 307), (.int 214 0), (.int 0 0), (.ref 314), (.int 221 0), (.int 0 0), (.ref 321), (.int 230 0), (.int 0 0), (.ref 328), (.int 241 0), (.int 0 0), (.ref 335), (.int 247 0), (.int 0 0), (.ref 342), (.int 255 0), (.int 0 0), (.ref 349)]), #[]⟩
noncomputable abbrev o399 (P : Params) : Obj := ⟨(.type "tuple"), none, (.seq #[] 0), #[]⟩
noncomputable abbrev o400 (P : Params) : Obj := ⟨(.type "builtin_function_or_method"), none, (.fields #[(.builtin "type.__prepare__"), (.type "type")]), #[]⟩
noncomputable abbrev o401 (P : Params) : Obj := ⟨(.type "dict"), none, (.dict #[e84 P, (E P "__qualname__" 790 (.str "LineBreaks" 789)), e85 P, e86 P, e87 P, e88 P, e89 P, e90 P, e91 P, e92 P] 10), #[]⟩
noncomputable abbrev o402 (P : Params) : Obj := ⟨(.type "tuple"), none, (.seq #[] 0), #[]⟩
noncomputable abbrev o403 (P : Params) : Obj := ⟨.none, none, (.fields #[(.int 257 0), (.int 4 0), (.ref 357), (.int 261 0), (.int 4 0), (.ref 362), (.int 264 0), (.int 4 0), (.ref 367), (.int 267 0), (.int 4 0), (.ref 374), (.int 270 0), (.int 4 0), (.ref 383), (.int 273 0), (.int 4 0), (.ref 390)]), #[]⟩
noncomputable abbrev o404 (P : Params) : Obj := ⟨(.type "code"), none, (.fields #[(.str "LineBreaks" 783), (.str "LineBreaks" 784), (.str "/claim/cut.py" 785), (.int 255 0), (.int 0 0), (.int 0 0), (.int 0 0), (.int 0 0), (.ref 347), (.bool false), (.int 181 0), (.ref 348), .none, .none, .none, .none, (.int 786 0), (.int 255 0), (.str "/claim/cut.py" 787)]), #[]⟩
noncomputable abbrev o405 (P : Params) : Obj := ⟨(.type "frame"), none, .plain, #[(some (.ref 349)), (some (.ref 3)), (some (.ref 346)), none, (some (.str "unicore.linebreaks" 254)), none, (some (.ref 0))]⟩
noncomputable abbrev o406 (P : Params) : Obj := ⟨(.type "tuple"), none, (.seq #[.none] 0), #[]⟩
noncomputable abbrev o407 (P : Params) : Obj := ⟨(.type "tuple"), none, (.seq #[] 0), #[]⟩
noncomputable abbrev o408 (P : Params) : Obj := ⟨.none, none, (.fields #[]), #[]⟩
noncomputable abbrev o409 (P : Params) : Obj := ⟨(.type "tuple"), none, (.seq #[(.str "self" 796), (.str "data" 797), (.str "how" 798)] 0), #[]⟩
noncomputable abbrev o410 (P : Params) : Obj := ⟨(.type "tuple"), none, (.seq #[] 0), #[]⟩
noncomputable abbrev o411 (P : Params) : Obj := ⟨.none, none, (.func (fc (in_ 53 0) "LineBreaks.__init__")), #[]⟩
noncomputable abbrev o412 (P : Params) : Obj := ⟨(.type "code"), none, (.fields #[(.str "__init__" 793), (.str "LineBreaks.__init__" 794), (.str "/claim/cut.py" 795), (.int 257 0), (.int 3 0), (.int 0 0), (.int 0 0), (.int 3 0), (.ref 352), (.bool true), (.int 181 0), (.ref 353), .none, (.ref 354), (.ref 355), (.ref 356), (.int 799 0), (.int 257 0), (.str "/claim/cut.py" 800)]), #[]⟩
noncomputable abbrev o413 (P : Params) : Obj := ⟨(.type "function"), none, (.func (ff (in_ 53 0) "LineBreaks.__init__" 3 (.ref 351) (.str "unicore.linebreaks" 254) (.ref 357))), #[]⟩
noncomputable abbrev o414 (P : Params) : Obj := ⟨(.type "tuple"), none, (.seq #[] 0), #[]⟩
noncomputable abbrev o415 (P : Params) : Obj := ⟨.none, none, (.fields #[]), #[]⟩
noncomputable abbrev o416 (P : Params) : Obj := ⟨.none, none, (.func (fc (in_ 53 1) "LineBreaks.opportunities")), #[]⟩
noncomputable abbrev o417 (P : Params) : Obj := ⟨(.type "code"), none, (.fields #[(.str "opportunities" 802), (.str "LineBreaks.opportunities" 803), (.str "/claim/cut.py" 804), (.int 261 0), (.int 2 0), (.int 0 0), (.int 0 0), (.int 3 0), (.ref 359), (.bool true), (.int 181 0), (.ref 360), .none, .none, .none, (.ref 361), (.int 805 0), (.int 261 0), (.str "/claim/cut.py" 806)]), #[]⟩
noncomputable abbrev o418 (P : Params) : Obj := ⟨(.type "function"), none, (.func (ff (in_ 53 1) "LineBreaks.opportunities" 3 .none (.str "unicore.linebreaks" 254) (.ref 362))), #[]⟩
noncomputable abbrev o419 (P : Params) : Obj := ⟨(.type "tuple"), none, (.seq #[] 0), #[]⟩
noncomputable abbrev o420 (P : Params) : Obj := ⟨.none, none, (.fields #[]), #[]⟩
noncomputable abbrev o421 (P : Params) : Obj := ⟨.none, none, (.func (fc (in_ 53 2) "LineBreaks.reasons")), #[]⟩
noncomputable abbrev o422 (P : Params) : Obj := ⟨(.type "code"), none, (.fields #[(.str "reasons" 808), (.str "LineBreaks.reasons" 809), (.str "/claim/cut.py" 810), (.int 264 0), (.int 2 0), (.int 0 0), (.int 0 0), (.int 3 0), (.ref 364), (.bool true), (.int 181 0), (.ref 365), .none, .none, .none, (.ref 366), (.int 811 0), (.int 264 0), (.str "/claim/cut.py" 812)]), #[]⟩
noncomputable abbrev o423 (P : Params) : Obj := ⟨(.type "function"), none, (.func (ff (in_ 53 2) "LineBreaks.reasons" 3 .none (.str "unicore.linebreaks" 254) (.ref 367))), #[]⟩
noncomputable abbrev o424 (P : Params) : Obj := ⟨(.type "tuple"), none, (.seq #[] 0), #[]⟩
noncomputable abbrev o425 (P : Params) : Obj := ⟨.none, none, (.fields #[]), #[]⟩
noncomputable abbrev o426 (P : Params) : Obj := ⟨(.type "tuple"), none, (.seq #[(.str "self" 817), (.str "text" 818), (.str "widths" 819)] 0), #[]⟩
noncomputable abbrev o427 (P : Params) : Obj := ⟨(.type "tuple"), none, (.seq #[] 0), #[]⟩
noncomputable abbrev o428 (P : Params) : Obj := ⟨.none, none, (.func (fc (in_ 53 3) "LineBreaks.measure")), #[]⟩
noncomputable abbrev o429 (P : Params) : Obj := ⟨(.type "code"), none, (.fields #[(.str "measure" 814), (.str "LineBreaks.measure" 815), (.str "/claim/cut.py" 816), (.int 267 0), (.int 3 0), (.int 0 0), (.int 0 0), (.int 3 0), (.ref 369), (.bool true), (.int 181 0), (.ref 370), .none, (.ref 371), (.ref 372), (.ref 373), (.int 820 0), (.int 267 0), (.str "/claim/cut.py" 821)]), #[]⟩
noncomputable abbrev o430 (P : Params) : Obj := ⟨(.type "function"), none, (.func (ff (in_ 53 3) "LineBreaks.measure" 3 .none (.str "unicore.linebreaks" 254) (.ref 374))), #[]⟩
noncomputable abbrev o431 (P : Params) : Obj := ⟨(.type "tuple"), none, (.seq #[] 0), #[]⟩
noncomputable abbrev o432 (P : Params) : Obj := ⟨(.type "tuple"), none, (.seq #[(.ref 376)] 0), #[]⟩
noncomputable abbrev o433 (P : Params) : Obj := ⟨(.type "tuple"), none, (.seq #[] 0), #[]⟩
noncomputable abbrev o434 (P : Params) : Obj := ⟨.none, none, (.fields #[]), #[]⟩
noncomputable abbrev o435 (P : Params) : Obj := ⟨(.type "tuple"), none, (.seq #[(.str "self" 826), (.str "text" 827), (.str "widths" 828), (.str "most" 829), (.str "inner" 830)] 0), #[]⟩
noncomputable abbrev o436 (P : Params) : Obj := ⟨(.type "tuple"), none, (.seq #[] 0), #[]⟩
noncomputable abbrev o437 (P : Params) : Obj := ⟨.none, none, (.func (fc (in_ 53 4) "LineBreaks.fit_lines")), #[]⟩
noncomputable abbrev o438 (P : Params) : Obj := ⟨(.type "code"), none, (.fields #[(.str "fit_lines" 823), (.str "LineBreaks.fit_lines" 824), (.str "/claim/cut.py" 825), (.int 270 0), (.int 5 0), (.int 0 0), (.int 0 0), (.int 3 0), (.ref 378), (.bool true), (.int 181 0), (.ref 379), .none, (.ref 380), (.ref 381), (.ref 382), (.int 831 0), (.int 270 0), (.str "/claim/cut.py" 832)]), #[]⟩
noncomputable abbrev o439 (P : Params) : Obj := ⟨(.type "function"), none, (.func (ff (in_ 53 4) "LineBreaks.fit_lines" 3 (.ref 377) (.str "unicore.linebreaks" 254) (.ref 383))), #[]⟩
noncomputable abbrev o440 (P : Params) : Obj := ⟨(.type "tuple"), none, (.seq #[] 0), #[]⟩
noncomputable abbrev o441 (P : Params) : Obj := ⟨.none, none, (.fields #[]), #[]⟩
noncomputable abbrev o442 (P : Params) : Obj := ⟨(.type "tuple"), none, (.seq #[(.str "self" 837), (.str "text" 838), (.str "widths" 839), (.str "most" 840)] 0), #[]⟩
noncomputable abbrev o443 (P : Params) : Obj := ⟨(.type "tuple"), none, (.seq #[] 0), #[]⟩
noncomputable abbrev o444 (P : Params) : Obj := ⟨.none, none, (.func (fc (in_ 53 5) "LineBreaks.even_lines")), #[]⟩
noncomputable abbrev o445 (P : Params) : Obj := ⟨(.type "code"), none, (.fields #[(.str "even_lines" 834), (.str "LineBreaks.even_lines" 835), (.str "/claim/cut.py" 836), (.int 273 0), (.int 4 0), (.int 0 0), (.int 0 0), (.int 3 0), (.ref 385), (.bool true), (.int 181 0), (.ref 386), .none, (.ref 387), (.ref 388), (.ref 389), (.int 841 0), (.int 273 0), (.str "/claim/cut.py" 842)]), #[]⟩
noncomputable abbrev o446 (P : Params) : Obj := ⟨(.type "function"), none, (.func (ff (in_ 53 5) "LineBreaks.even_lines" 3 .none (.str "unicore.linebreaks" 254) (.ref 390))), #[]⟩
noncomputable abbrev o447 (P : Params) : Obj := ⟨(.type "tuple"), none, (.seq #[(.str "data" 844), (.str "how" 845)] 0), #[]⟩
noncomputable abbrev o448 (P : Params) : Obj := ⟨(.type "dict"), none, (.dict #[e84 P, e85 P, e86 P, e87 P, e88 P, e89 P, e90 P, e91 P, e92 P, (E P "__dict__" 848 (.ref 395)), (E P "__weakref__" 850 (.ref 396)), (E P "__doc__" 851 .none)] 4), #[]⟩
noncomputable abbrev o449 (P : Params) : Obj := ⟨(.type "type"), none, (.cls ⟨"LineBreaks", [(.type "object")], [(.ref 394), (.type "object")], 393, "LineBreaks", true, [], [], false, none, false⟩), #[none, none, (some (.str "LineBreaks" 781)), (some (.str "LineBreaks" 789)), (some (.builtin "object.__new__")), (some (.bool true))]⟩
noncomputable abbrev o450 (P : Params) : Obj := ⟨(.type "getset_descriptor"), none, (.fields #[(.str "__dict__" 847), (.ref 394), (.builtin "function.__dict__"), (.builtin "function.__dict__#set")]), #[]⟩
noncomputable abbrev o451 (P : Params) : Obj := ⟨(.type "getset_descriptor"), none, (.fields #[(.str "__weakref__" 849), (.ref 394), (.builtin "ExceptionGroup.__weakref__"), .none]), #[]⟩
noncomputable abbrev o452 (P : Params) : Obj := ⟨(.type "super"), none, (.fields #[(.ref 394), (.ref 394), (.ref 394)]), #[]⟩
noncomputable abbrev o453 (P : Params) : Obj := ⟨(.type "builtin_function_or_method"), none, (.fields #[(.builtin "object.__init_subclass__"), (.ref 394)]), #[]⟩
noncomputable abbrev o454 (P : Params) : Obj := ⟨(.type "dict"), none, (.dict #[(E P "__name__" 165 (.str "unicore.data" 933)), e0 P, e1 P, e2 P, e3 P, e4 P, e5 P, e6 P, e7 P, e8 P, e9 P, e10 P, e16 P, e17 P, e18 P, e19 P, e20 P, e21 P, e22 P, e23 P, e24 P, e25 P, e26 P, e30 P, e31 P, e32 P, e33 P, e34 P, e35 P, e36 P, e37 P, e38 P, e39 P, e40 P, e41 P, e42 P, e43 P, e44 P, e45 P, e50 P, e51 P, e56 P, e57 P, e66 P, e67 P, e68 P, e69 P, e70 P, e71 P, e72 P, e73 P, e74 P, e75 P, e76 P, e77 P, e78 P, e79 P, e80 P, e81 P, e82 P, e83 P, e93 P, e94 P] 63), #[]⟩
noncomputable abbrev o455 (P : Params) : Obj := ⟨.none, none, (.fields #[(.int 1 0), (.int 0 0), (.ref 20), (.int 6 0), (.int 0 0), (.ref 27), (.int 10 0), (.int 0 0), (.ref 48), (.int 12 0), (.int 0 0), (.ref 60), (.int 45 0), (.int 0 0), (.ref 110), (.int 55 0), (.int 0 0), (.ref 132), (.int 62 0), (.int 0 0), (.ref 139), (.int 73 0), (.int 0 0), (.ref 146), (.int 80 0), (.int 0 0), (.ref 167), (.int 91 0), (.int 0 0), (.ref 174), (.int 120 0), (.int 0 0), (.ref 223), (.int 129 0), (.int 0 0), (.ref 230), (.int 135 0), (.int 0 0), (.ref 237), (.int 142 0), (.int 0 0), (.ref 244), (.int 149 0), (.int 0 0), (.ref 251), (.int 156 0), (.int 0 0), (.ref 258), (.int 163 0), (.int 0 0), (.ref 265), (.int 177 0), (.int 0 0), (.ref 272), (.int 186 0), (.int 0 0), (.ref 279), (.int 188 0), (.int 0 0), (.ref 286), (.int 199 0), (.int 0 0), (.ref 293), (.int 203 0), (.int 0 0), (.ref 300), (.int 210 0), (.int 0 0), (.ref 307), (.int 214 0), (.int 0 0), (.ref 314), (.int 221 0), (.int 0 0), (.ref 321), (.int 230 0), (.int 0 0), (.ref 328), (.int 241 0), (.int 0 0), (.ref 335), (.int 247 0), (.int 0 0), (.ref 342), (.int 255 0), (.int 0 0), (.ref 349), (.int 276 0), (.int 0 0), (.ref 404), (.int 278 0), (.int 0 0), (.ref 411)]), #[]⟩
noncomputable abbrev o456 (P : Params) : Obj := ⟨(.type "tuple"), none, (.seq #[] 0), #[]⟩
noncomputable abbrev o457 (P : Params) : Obj := ⟨.none, none, (.fields #[]), #[]⟩
noncomputable abbrev o458 (P : Params) : Obj := ⟨(.type "tuple"), none, (.seq #[(.str "one" 859), (.str "other" 860)] 0), #[]⟩
noncomputable abbrev o459 (P : Params) : Obj := ⟨(.type "tuple"), none, (.seq #[] 0), #[]⟩
noncomputable abbrev o460 (P : Params) : Obj := ⟨.none, none, (.func (fc (at_ 55) "range_are_like")), #[]⟩
noncomputable abbrev o461 (P : Params) : Obj := ⟨(.type "code"), none, (.fields #[(.str "range_are_like" 856), (.str "range_are_like" 857), (.str "/claim/cut.py" 858), (.int 276 0), (.int 2 0), (.int 0 0), (.int 0 0), (.int 3 0), (.ref 399), (.bool true), (.int 181 0), (.ref 400), .none, (.ref 401), (.ref 402), (.ref 403), (.int 861 0), (.int 276 0), (.str "/claim/cut.py" 862)]), #[]⟩
noncomputable abbrev o462 (P : Params) : Obj := ⟨(.type "function"), none, (.func (ff (at_ 55) "range_are_like" 3 .none (.str "unicore.ranges" 854) (.ref 404))), #[]⟩
noncomputable abbrev o463 (P : Params) : Obj := ⟨(.type "tuple"), none, (.seq #[] 0), #[]⟩
noncomputable abbrev o464 (P : Params) : Obj := ⟨(.type "builtin_function_or_method"), none, (.fields #[(.builtin "type.__prepare__"), (.type "type")]), #[]⟩
noncomputable abbrev o465 (P : Params) : Obj := ⟨(.type "dict"), none, (.dict #[e95 P, (E P "__qualname__" 873 (.str "RangeMap" 872)), e96 P, e97 P, e98 P, e99 P, e100 P, e101 P, e102 P] 9), #[]⟩
noncomputable abbrev o466 (P : Params) : Obj := ⟨(.type "tuple"), none, (.seq #[] 0), #[]⟩
noncomputable abbrev o467 (P : Params) : Obj := ⟨.none, none, (.fields #[(.int 280 0), (.int 4 0), (.ref 418), (.int 285 0), (.int 4 0), (.ref 425), (.int 288 0), (.int 4 0), (.ref 432), (.int 303 0), (.int 4 0), (.ref 439), (.int 306 0), (.int 4 0), (.ref 446)]), #[]⟩
noncomputable abbrev o468 (P : Params) : Obj := ⟨(.type "code"), none, (.fields #[(.str "RangeMap" 866), (.str "RangeMap" 867), (.str "/claim/cut.py" 868), (.int 278 0), (.int 0 0), (.int 0 0), (.int 0 0), (.int 0 0), (.ref 409), (.bool false), (.int 181 0), (.ref 410), .none, .none, .none, .none, (.int 869 0), (.int 278 0), (.str "/claim/cut.py" 870)]), #[]⟩
noncomputable abbrev o469 (P : Params) : Obj := ⟨(.type "frame"), none, .plain, #[(some (.ref 411)), (some (.ref 3)), (some (.ref 408)), none, (some (.str "unicore.ranges" 854)), none, (some (.ref 0))]⟩
noncomputable abbrev o470 (P : Params) : Obj := ⟨(.type "tuple"), none, (.seq #[] 0), #[]⟩
noncomputable abbrev o471 (P : Params) : Obj := ⟨.none, none, (.fields #[]), #[]⟩
noncomputable abbrev o472 (P : Params) : Obj := ⟨(.type "tuple"), none, (.seq #[(.str "self" 879), (.str "default" 880)] 0), #[]⟩
noncomputable abbrev o473 (P : Params) : Obj := ⟨(.type "tuple"), none, (.seq #[] 0), #[]⟩
noncomputable abbrev o474 (P : Params) : Obj := ⟨.none, none, (.func (fc (in_ 56 0) "RangeMap.__init__")), #[]⟩
noncomputable abbrev o475 (P : Params) : Obj := ⟨(.type "code"), none, (.fields #[(.str "__init__" 876), (.str "RangeMap.__init__" 877), (.str "/claim/cut.py" 878), (.int 280 0), (.int 2 0), (.int 0 0), (.int 0 0), (.int 3 0), (.ref 413), (.bool true), (.int 181 0), (.ref 414), .none, (.ref 415), (.ref 416), (.ref 417), (.int 881 0), (.int 280 0), (.str "/claim/cut.py" 882)]), #[]⟩
noncomputable abbrev o476 (P : Params) : Obj := ⟨(.type "function"), none, (.func (ff (in_ 56 0) "RangeMap.__init__" 3 .none (.str "unicore.ranges" 854) (.ref 418))), #[]⟩
noncomputable abbrev o477 (P : Params) : Obj := ⟨(.type "tuple"), none, (.seq #[] 0), #[]⟩
noncomputable abbrev o478 (P : Params) : Obj := ⟨.none, none, (.fields #[]), #[]⟩
noncomputable abbrev o479 (P : Params) : Obj := ⟨(.type "tuple"), none, (.seq #[(.str "self" 887), (.str "code" 888)] 0), #[]⟩
noncomputable abbrev o480 (P : Params) : Obj := ⟨(.type "tuple"), none, (.seq #[] 0), #[]⟩
noncomputable abbrev o481 (P : Params) : Obj := ⟨.none, none, (.func (fc (in_ 56 1) "RangeMap.get")), #[]⟩
noncomputable abbrev o482 (P : Params) : Obj := ⟨(.type "code"), none, (.fields #[(.str "get" 884), (.str "RangeMap.get" 885), (.str "/claim/cut.py" 886), (.int 285 0), (.int 2 0), (.int 0 0), (.int 0 0), (.int 3 0), (.ref 420), (.bool true), (.int 181 0), (.ref 421), .none, (.ref 422), (.ref 423), (.ref 424), (.int 889 0), (.int 285 0), (.str "/claim/cut.py" 890)]), #[]⟩
noncomputable abbrev o483 (P : Params) : Obj := ⟨(.type "function"), none, (.func (ff (in_ 56 1) "RangeMap.get" 3 .none (.str "unicore.ranges" 854) (.ref 425))), #[]⟩
noncomputable abbrev o484 (P : Params) : Obj := ⟨(.type "tuple"), none, (.seq #[] 0), #[]⟩
noncomputable abbrev o485 (P : Params) : Obj := ⟨.none, none, (.fields #[]), #[]⟩
noncomputable abbrev o486 (P : Params) : Obj := ⟨(.type "tuple"), none, (.seq #[(.str "self" 895), (.str "first" 896), (.str "last" 897), (.str "value" 898), (.str "low" 899), (.str "high" 900), (.str "behind" 901), (.str "starts" 902), (.str "values" 903)] 0), #[]⟩
noncomputable abbrev o487 (P : Params) : Obj := ⟨(.type "tuple"), none, (.seq #[] 0), #[]⟩
noncomputable abbrev o488 (P : Params) : Obj := ⟨.none, none, (.func (fc (in_ 56 2) "RangeMap.put")), #[]⟩
noncomputable abbrev o489 (P : Params) : Obj := ⟨(.type "code"), none, (.fields #[(.str "put" 892), (.str "RangeMap.put" 893), (.str "/claim/cut.py" 894), (.int 288 0), (.int 4 0), (.int 0 0), (.int 0 0), (.int 3 0), (.ref 427), (.bool true), (.int 181 0), (.ref 428), .none, (.ref 429), (.ref 430), (.ref 431), (.int 904 0), (.int 288 0), (.str "/claim/cut.py" 905)]), #[]⟩
noncomputable abbrev o490 (P : Params) : Obj := ⟨(.type "function"), none, (.func (ff (in_ 56 2) "RangeMap.put" 3 .none (.str "unicore.ranges" 854) (.ref 432))), #[]⟩
noncomputable abbrev o491 (P : Params) : Obj := ⟨(.type "tuple"), none, (.seq #[] 0), #[]⟩
noncomputable abbrev o492 (P : Params) : Obj := ⟨.none, none, (.fields #[]), #[]⟩
noncomputable abbrev o493 (P : Params) : Obj := ⟨(.type "tuple"), none, (.seq #[(.str "self" 910)] 0), #[]⟩
noncomputable abbrev o494 (P : Params) : Obj := ⟨(.type "tuple"), none, (.seq #[] 0), #[]⟩
noncomputable abbrev o495 (P : Params) : Obj := ⟨.none, none, (.func (fc (in_ 56 3) "RangeMap.ranges")), #[]⟩
noncomputable abbrev o496 (P : Params) : Obj := ⟨(.type "code"), none, (.fields #[(.str "ranges" 907), (.str "RangeMap.ranges" 908), (.str "/claim/cut.py" 909), (.int 303 0), (.int 1 0), (.int 0 0), (.int 0 0), (.int 3 0), (.ref 434), (.bool true), (.int 181 0), (.ref 435), .none, (.ref 436), (.ref 437), (.ref 438), (.int 911 0), (.int 303 0), (.str "/claim/cut.py" 912)]), #[]⟩
noncomputable abbrev o497 (P : Params) : Obj := ⟨(.type "function"), none, (.func (ff (in_ 56 3) "RangeMap.ranges" 3 .none (.str "unicore.ranges" 854) (.ref 439))), #[]⟩
noncomputable abbrev o498 (P : Params) : Obj := ⟨(.type "tuple"), none, (.seq #[] 0), #[]⟩
noncomputable abbrev o499 (P : Params) : Obj := ⟨.none, none, (.fields #[]), #[]⟩
noncomputable abbrev o500 (P : Params) : Obj := ⟨(.type "tuple"), none, (.seq #[(.str "self" 917), (.str "value" 918)] 0), #[]⟩
noncomputable abbrev o501 (P : Params) : Obj := ⟨(.type "tuple"), none, (.seq #[] 0), #[]⟩
noncomputable abbrev o502 (P : Params) : Obj := ⟨.none, none, (.func (fc (in_ 56 4) "RangeMap.set_of")), #[]⟩
noncomputable abbrev o503 (P : Params) : Obj := ⟨(.type "code"), none, (.fields #[(.str "set_of" 914), (.str "RangeMap.set_of" 915), (.str "/claim/cut.py" 916), (.int 306 0), (.int 2 0), (.int 0 0), (.int 0 0), (.int 3 0), (.ref 441), (.bool true), (.int 181 0), (.ref 442), .none, (.ref 443), (.ref 444), (.ref 445), (.int 919 0), (.int 306 0), (.str "/claim/cut.py" 920)]), #[]⟩
noncomputable abbrev o504 (P : Params) : Obj := ⟨(.type "function"), none, (.func (ff (in_ 56 4) "RangeMap.set_of" 3 .none (.str "unicore.ranges" 854) (.ref 446))), #[]⟩
noncomputable abbrev o505 (P : Params) : Obj := ⟨(.type "tuple"), none, (.seq #[(.str "default" 922), (.str "starts" 923), (.str "values" 924)] 0), #[]⟩
noncomputable abbrev o506 (P : Params) : Obj := ⟨(.type "dict"), none, (.dict #[e95 P, e96 P, e97 P, e98 P, e99 P, e100 P, e101 P, e102 P, (E P "__dict__" 927 (.ref 451)), (E P "__weakref__" 929 (.ref 452)), (E P "__doc__" 930 .none)] 4), #[]⟩
noncomputable abbrev o507 (P : Params) : Obj := ⟨(.type "type"), none, (.cls ⟨"RangeMap", [(.type "object")], [(.ref 450), (.type "object")], 449, "RangeMap", true, [], [], false, none, false⟩), #[none, none, (some (.str "RangeMap" 864)), (some (.str "RangeMap" 872)), (some (.builtin "object.__new__")), (some (.bool true))]⟩
noncomputable abbrev o508 (P : Params) : Obj := ⟨(.type "getset_descriptor"), none, (.fields #[(.str "__dict__" 926), (.ref 450), (.builtin "function.__dict__"), (.builtin "function.__dict__#set")]), #[]⟩
noncomputable abbrev o509 (P : Params) : Obj := ⟨(.type "getset_descriptor"), none, (.fields #[(.str "__weakref__" 928), (.ref 450), (.builtin "ExceptionGroup.__weakref__"), .none]), #[]⟩
noncomputable abbrev o510 (P : Params) : Obj := ⟨(.type "super"), none, (.fields #[(.ref 450), (.ref 450), (.ref 450)]), #[]⟩
noncomputable abbrev o511 (P : Params) : Obj := ⟨(.type "builtin_function_or_method"), none, (.fields #[(.builtin "object.__init_subclass__"), (.ref 450)]), #[]⟩
noncomputable abbrev o512 (P : Params) : Obj := ⟨(.type "dict"), none, (.dict #[e103 P, e0 P, e1 P, e2 P, e3 P, e4 P, e5 P, e6 P, e7 P, e8 P, e9 P, e10 P, e16 P, e17 P, e18 P, e19 P, e20 P, e21 P, e22 P, e23 P, e24 P, e25 P, e26 P, e30 P, e31 P, e32 P, e33 P, e34 P, e35 P, e36 P, e37 P, e38 P, e39 P, e40 P, e41 P, e42 P, e43 P, e44 P, e45 P, e50 P, e51 P, e56 P, e57 P, e66 P, e67 P, e68 P, e69 P, e70 P, e71 P, e72 P, e73 P, e74 P, e75 P, e76 P, e77 P, e78 P, e79 P, e80 P, e81 P, e82 P, e83 P, e93 P, e94 P, e104 P, e105 P, e106 P] 66), #[]⟩
noncomputable abbrev o513 (P : Params) : Obj := ⟨.none, none, (.fields #[(.int 1 0), (.int 0 0), (.ref 20), (.int 6 0), (.int 0 0), (.ref 27), (.int 10 0), (.int 0 0), (.ref 48), (.int 12 0), (.int 0 0), (.ref 60), (.int 45 0), (.int 0 0), (.ref 110), (.int 55 0), (.int 0 0), (.ref 132), (.int 62 0), (.int 0 0), (.ref 139), (.int 73 0), (.int 0 0), (.ref 146), (.int 80 0), (.int 0 0), (.ref 167), (.int 91 0), (.int 0 0), (.ref 174), (.int 120 0), (.int 0 0), (.ref 223), (.int 129 0), (.int 0 0), (.ref 230), (.int 135 0), (.int 0 0), (.ref 237), (.int 142 0), (.int 0 0), (.ref 244), (.int 149 0), (.int 0 0), (.ref 251), (.int 156 0), (.int 0 0), (.ref 258), (.int 163 0), (.int 0 0), (.ref 265), (.int 177 0), (.int 0 0), (.ref 272), (.int 186 0), (.int 0 0), (.ref 279), (.int 188 0), (.int 0 0), (.ref 286), (.int 199 0), (.int 0 0), (.ref 293), (.int 203 0), (.int 0 0), (.ref 300), (.int 210 0), (.int 0 0), (.ref 307), (.int 214 0), (.int 0 0), (.ref 314), (.int 221 0), (.int 0 0), (.ref 321), (.int 230 0), (.int 0 0), (.ref 328), (.int 241 0), (.int 0 0), (.ref 335), (.int 247 0), (.int 0 0), (.ref 342), (.int 255 0), (.int 0 0), (.ref 349), (.int 276 0), (.int 0 0), (.ref 404), (.int 278 0), (.int 0 0), (.ref 411), (.int 309 0), (.int 0 0), (.ref 460), (.int 321 0), (.int 0 0), (.ref 467)]), #[]⟩
noncomputable abbrev o514 (P : Params) : Obj := ⟨(.type "tuple"), none, (.seq #[] 0), #[]⟩
noncomputable abbrev o515 (P : Params) : Obj := ⟨.none, none, (.fields #[]), #[]⟩
noncomputable abbrev o516 (P : Params) : Obj := ⟨(.type "tuple"), none, (.seq #[(.str "found" 938), (.str "name" 939)] 0), #[]⟩
noncomputable abbrev o517 (P : Params) : Obj := ⟨(.type "tuple"), none, (.seq #[] 0), #[]⟩
noncomputable abbrev o518 (P : Params) : Obj := ⟨.none, none, (.func (fc (at_ 58) "data_defaults")), #[]⟩
noncomputable abbrev o519 (P : Params) : Obj := ⟨(.type "code"), none, (.fields #[(.str "data_defaults" 935), (.str "data_defaults" 936), (.str "/claim/cut.py" 937), (.int 309 0), (.int 0 0), (.int 0 0), (.int 0 0), (.int 3 0), (.ref 455), (.bool true), (.int 181 0), (.ref 456), .none, (.ref 457), (.ref 458), (.ref 459), (.int 940 0), (.int 309 0), (.str "/claim/cut.py" 941)]), #[]⟩
noncomputable abbrev o520 (P : Params) : Obj := ⟨(.type "function"), none, (.func (ff (at_ 58) "data_defaults" 3 .none (.str "unicore.data" 933) (.ref 460))), #[]⟩
noncomputable abbrev o521 (P : Params) : Obj := ⟨(.type "tuple"), none, (.seq #[] 0), #[]⟩
noncomputable abbrev o522 (P : Params) : Obj := ⟨(.type "builtin_function_or_method"), none, (.fields #[(.builtin "type.__prepare__"), (.type "type")]), #[]⟩
noncomputable abbrev o523 (P : Params) : Obj := ⟨(.type "dict"), none, (.dict #[e107 P, (E P "__qualname__" 952 (.str "Data" 951)), e108 P, e109 P, e110 P, e111 P, e112 P, e113 P] 8), #[]⟩
noncomputable abbrev o524 (P : Params) : Obj := ⟨(.type "tuple"), none, (.seq #[] 0), #[]⟩
noncomputable abbrev o525 (P : Params) : Obj := ⟨.none, none, (.fields #[(.int 323 0), (.int 4 0), (.ref 474), (.int 329 0), (.int 4 0), (.ref 481), (.int 332 0), (.int 4 0), (.ref 488), (.int 337 0), (.int 4 0), (.ref 495)]), #[]⟩
noncomputable abbrev o526 (P : Params) : Obj := ⟨(.type "code"), none, (.fields #[(.str "Data" 945), (.str "Data" 946), (.str "/claim/cut.py" 947), (.int 321 0), (.int 0 0), (.int 0 0), (.int 0 0), (.int 0 0), (.ref 465), (.bool false), (.int 181 0), (.ref 466), .none, .none, .none, .none, (.int 948 0), (.int 321 0), (.str "/claim/cut.py" 949)]), #[]⟩
noncomputable abbrev o527 (P : Params) : Obj := ⟨(.type "frame"), none, .plain, #[(some (.ref 467)), (some (.ref 3)), (some (.ref 464)), none, (some (.str "unicore.data" 933)), none, (some (.ref 0))]⟩
noncomputable abbrev o528 (P : Params) : Obj := ⟨(.type "tuple"), none, (.seq #[] 0), #[]⟩
noncomputable abbrev o529 (P : Params) : Obj := ⟨.none, none, (.fields #[]), #[]⟩
noncomputable abbrev o530 (P : Params) : Obj := ⟨(.type "tuple"), none, (.seq #[(.str "self" 958)] 0), #[]⟩
noncomputable abbrev o531 (P : Params) : Obj := ⟨(.type "tuple"), none, (.seq #[] 0), #[]⟩
noncomputable abbrev o532 (P : Params) : Obj := ⟨.none, none, (.func (fc (in_ 59 0) "Data.__init__")), #[]⟩
noncomputable abbrev o533 (P : Params) : Obj := ⟨(.type "code"), none, (.fields #[(.str "__init__" 955), (.str "Data.__init__" 956), (.str "/claim/cut.py" 957), (.int 323 0), (.int 1 0), (.int 0 0), (.int 0 0), (.int 3 0), (.ref 469), (.bool true), (.int 181 0), (.ref 470), .none, (.ref 471), (.ref 472), (.ref 473), (.int 959 0), (.int 323 0), (.str "/claim/cut.py" 960)]), #[]⟩
noncomputable abbrev o534 (P : Params) : Obj := ⟨(.type "function"), none, (.func (ff (in_ 59 0) "Data.__init__" 3 .none (.str "unicore.data" 933) (.ref 474))), #[]⟩
noncomputable abbrev o535 (P : Params) : Obj := ⟨(.type "tuple"), none, (.seq #[] 0), #[]⟩
noncomputable abbrev o536 (P : Params) : Obj := ⟨.none, none, (.fields #[]), #[]⟩
noncomputable abbrev o537 (P : Params) : Obj := ⟨(.type "tuple"), none, (.seq #[(.str "self" 965), (.str "name" 966), (.str "first" 967), (.str "last" 968), (.str "value" 969)] 0), #[]⟩
noncomputable abbrev o538 (P : Params) : Obj := ⟨(.type "tuple"), none, (.seq #[] 0), #[]⟩
noncomputable abbrev o539 (P : Params) : Obj := ⟨.none, none, (.func (fc (in_ 59 1) "Data.put")), #[]⟩
noncomputable abbrev o540 (P : Params) : Obj := ⟨(.type "code"), none, (.fields #[(.str "put" 962), (.str "Data.put" 963), (.str "/claim/cut.py" 964), (.int 329 0), (.int 5 0), (.int 0 0), (.int 0 0), (.int 3 0), (.ref 476), (.bool true), (.int 181 0), (.ref 477), .none, (.ref 478), (.ref 479), (.ref 480), (.int 970 0), (.int 329 0), (.str "/claim/cut.py" 971)]), #[]⟩
noncomputable abbrev o541 (P : Params) : Obj := ⟨(.type "function"), none, (.func (ff (in_ 59 1) "Data.put" 3 .none (.str "unicore.data" 933) (.ref 481))), #[]⟩
noncomputable abbrev o542 (P : Params) : Obj := ⟨(.type "tuple"), none, (.seq #[] 0), #[]⟩
noncomputable abbrev o543 (P : Params) : Obj := ⟨.none, none, (.fields #[]), #[]⟩
noncomputable abbrev o544 (P : Params) : Obj := ⟨(.type "tuple"), none, (.seq #[(.str "self" 976), (.str "name" 977), (.str "code" 978)] 0), #[]⟩
noncomputable abbrev o545 (P : Params) : Obj := ⟨(.type "tuple"), none, (.seq #[] 0), #[]⟩
noncomputable abbrev o546 (P : Params) : Obj := ⟨.none, none, (.func (fc (in_ 59 2) "Data.get")), #[]⟩
noncomputable abbrev o547 (P : Params) : Obj := ⟨(.type "code"), none, (.fields #[(.str "get" 973), (.str "Data.get" 974), (.str "/claim/cut.py" 975), (.int 332 0), (.int 3 0), (.int 0 0), (.int 0 0), (.int 3 0), (.ref 483), (.bool true), (.int 181 0), (.ref 484), .none, (.ref 485), (.ref 486), (.ref 487), (.int 979 0), (.int 332 0), (.str "/claim/cut.py" 980)]), #[]⟩
noncomputable abbrev o548 (P : Params) : Obj := ⟨(.type "function"), none, (.func (ff (in_ 59 2) "Data.get" 3 .none (.str "unicore.data" 933) (.ref 488))), #[]⟩
noncomputable abbrev o549 (P : Params) : Obj := ⟨(.type "tuple"), none, (.seq #[] 0), #[]⟩
noncomputable abbrev o550 (P : Params) : Obj := ⟨.none, none, (.fields #[]), #[]⟩
noncomputable abbrev o551 (P : Params) : Obj := ⟨(.type "tuple"), none, (.seq #[(.str "self" 985), (.str "name" 986)] 0), #[]⟩
noncomputable abbrev o552 (P : Params) : Obj := ⟨(.type "tuple"), none, (.seq #[] 0), #[]⟩
noncomputable abbrev o553 (P : Params) : Obj := ⟨.none, none, (.func (fc (in_ 59 3) "Data.map_of")), #[]⟩
noncomputable abbrev o554 (P : Params) : Obj := ⟨(.type "code"), none, (.fields #[(.str "map_of" 982), (.str "Data.map_of" 983), (.str "/claim/cut.py" 984), (.int 337 0), (.int 2 0), (.int 0 0), (.int 0 0), (.int 3 0), (.ref 490), (.bool true), (.int 181 0), (.ref 491), .none, (.ref 492), (.ref 493), (.ref 494), (.int 987 0), (.int 337 0), (.str "/claim/cut.py" 988)]), #[]⟩
noncomputable abbrev o555 (P : Params) : Obj := ⟨(.type "function"), none, (.func (ff (in_ 59 3) "Data.map_of" 3 .none (.str "unicore.data" 933) (.ref 495))), #[]⟩
noncomputable abbrev o556 (P : Params) : Obj := ⟨(.type "tuple"), none, (.seq #[(.str "defaults" 990), (.str "maps" 991), (.str "properties" 992), (.str "words" 993)] 0), #[]⟩
noncomputable abbrev o557 (P : Params) : Obj := ⟨(.type "dict"), none, (.dict #[e107 P, e108 P, e109 P, e110 P, e111 P, e112 P, e113 P, (E P "__dict__" 996 (.ref 500)), (E P "__weakref__" 998 (.ref 501)), (E P "__doc__" 999 .none)] 4), #[]⟩
noncomputable abbrev o558 (P : Params) : Obj := ⟨(.type "type"), none, (.cls ⟨"Data", [(.type "object")], [(.ref 499), (.type "object")], 498, "Data", true, [], [], false, none, false⟩), #[none, none, (some (.str "Data" 943)), (some (.str "Data" 951)), (some (.builtin "object.__new__")), (some (.bool true))]⟩
noncomputable abbrev o559 (P : Params) : Obj := ⟨(.type "getset_descriptor"), none, (.fields #[(.str "__dict__" 995), (.ref 499), (.builtin "function.__dict__"), (.builtin "function.__dict__#set")]), #[]⟩
noncomputable abbrev o560 (P : Params) : Obj := ⟨(.type "getset_descriptor"), none, (.fields #[(.str "__weakref__" 997), (.ref 499), (.builtin "ExceptionGroup.__weakref__"), .none]), #[]⟩
noncomputable abbrev o561 (P : Params) : Obj := ⟨(.type "super"), none, (.fields #[(.ref 499), (.ref 499), (.ref 499)]), #[]⟩
noncomputable abbrev o562 (P : Params) : Obj := ⟨(.type "builtin_function_or_method"), none, (.fields #[(.builtin "object.__init_subclass__"), (.ref 499)]), #[]⟩
noncomputable abbrev o563 (P : Params) : Obj := ⟨(.type "tuple"), none, (.seq #[(.str "AK" 1004), (.str "AP" 1005), (.str "AS" 1006), (.str "VF" 1007), (.str "VI" 1008), (.str "AL" 1009), (.str "ID" 1010)] 0), #[]⟩
noncomputable abbrev o564 (P : Params) : Obj := ⟨(.type "dict"), none, (.dict #[e103 P, e0 P, e1 P, e2 P, e3 P, e4 P, e5 P, e6 P, e7 P, e8 P, e9 P, e10 P, e16 P, e17 P, e18 P, e19 P, e20 P, e21 P, e22 P, e23 P, e24 P, e25 P, e26 P, e30 P, e31 P, e32 P, e33 P, e34 P, e35 P, e36 P, e37 P, e38 P, e39 P, e40 P, e41 P, e42 P, e43 P, e44 P, e45 P, e50 P, e51 P, e56 P, e57 P, e66 P, e67 P, e68 P, e69 P, e70 P, e71 P, e72 P, e73 P, e74 P, e75 P, e76 P, e77 P, e78 P, e79 P, e80 P, e81 P, e82 P, e83 P, e93 P, e94 P, e104 P, e105 P, e106 P, (E P "_law_numbers" 1024 (.ref 505)), (E P "_law_deck" 1030 (.ref 510)), (E P "_law_draw" 1038 (.ref 517)), (E P "_law_data" 1048 (.ref 524)), (E P "_law_is_held" 1059 (.ref 531)), (E P "_law_syllables_right" 1065 (.ref 536)), (E P "_law_is_number" 1071 (.ref 541)), (E P "_law_numbers_right" 1077 (.ref 546)), (E P "law" 1085 (.ref 553))] 75), #[]⟩
noncomputable abbrev o565 (P : Params) : Obj := ⟨.none, none, (.fields #[(.int 1 0), (.int 0 0), (.ref 20), (.int 6 0), (.int 0 0), (.ref 27), (.int 10 0), (.int 0 0), (.ref 48), (.int 12 0), (.int 0 0), (.ref 60), (.int 45 0), (.int 0 0), (.ref 110), (.int 55 0), (.int 0 0), (.ref 132), (.int 62 0), (.int 0 0), (.ref 139), (.int 73 0), (.int 0 0), (.ref 146), (.int 80 0), (.int 0 0), (.ref 167), (.int 91 0), (.int 0 0), (.ref 174), (.int 120 0), (.int 0 0), (.ref 223), (.int 129 0), (.int 0 0), (.ref 230), (.int 135 0), (.int 0 0), (.ref 237), (.int 142 0), (.int 0 0), (.ref 244), (.int 149 0), (.int 0 0), (.ref 251), (.int 156 0), (.int 0 0), (.ref 258), (.int 163 0), (.int 0 0), (.ref 265), (.int 177 0), (.int 0 0), (.ref 272), (.int 186 0), (.int 0 0), (.ref 279), (.int 188 0), (.int 0 0), (.ref 286), (.int 199 0), (.int 0 0), (.ref 293), (.int 203 0), (.int 0 0), (.ref 300), (.int 210 0), (.int 0 0), (.ref 307), (.int 214 0), (.int 0 0), (.ref 314), (.int 221 0), (.int 0 0), (.ref 321), (.int 230 0), (.int 0 0), (.ref 328), (.int 241 0), (.int 0 0), (.ref 335), (.int 247 0), (.int 0 0), (.ref 342), (.int 255 0), (.int 0 0), (.ref 349), (.int 276 0), (.int 0 0), (.ref 404), (.int 278 0), (.int 0 0), (.ref 411), (.int 309 0), (.int 0 0), (.ref 460), (.int 321 0), (.int 0 0), (.ref 467), (.int 344 0), (.int 0 0), (.ref 509), (.int 349 0), (.int 0 0), (.ref 516), (.int 354 0), (.int 0 0), (.ref 523), (.int 360 0), (.int 0 0), (.ref 530), (.int 370 0), (.int 0 0), (.ref 535), (.int 378 0), (.int 0 0), (.ref 540), (.int 389 0), (.int 0 0), (.ref 545), (.int 403 0), (.int 0 0), (.ref 552)]), #[]⟩
noncomputable abbrev o566 (P : Params) : Obj := ⟨(.type "tuple"), none, (.seq #[(.str "NU" 1012), (.str "SY" 1013), (.str "IS" 1014), (.str "CL" 1015), (.str "CP" 1016), (.str "OP" 1017), (.str "HY" 1018), (.str "PR" 1019), (.str "PO" 1020), (.str "AL" 1021), (.str "NU" 1022), (.str "NU" 1023)] 0), #[]⟩
noncomputable abbrev o567 (P : Params) : Obj := ⟨(.type "tuple"), none, (.seq #[] 0), #[]⟩
noncomputable abbrev o568 (P : Params) : Obj := ⟨.none, none, (.fields #[]), #[]⟩
noncomputable abbrev o569 (P : Params) : Obj := ⟨.none, none, (.func (fc (at_ 63) "_law_deck")), #[]⟩
noncomputable abbrev o570 (P : Params) : Obj := ⟨(.type "code"), none, (.fields #[(.str "_law_deck" 1025), (.str "_law_deck" 1026), (.str "/claim/cut.py" 1027), (.int 344 0), (.int 1 0), (.int 0 0), (.int 0 0), (.int 3 0), (.ref 506), (.bool true), (.int 181 0), (.ref 507), .none, .none, .none, (.ref 508), (.int 1028 0), (.int 344 0), (.str "/claim/cut.py" 1029)]), #[]⟩
noncomputable abbrev o571 (P : Params) : Obj := ⟨(.type "function"), none, (.func (ff (at_ 63) "_law_deck" 3 .none (.str "law_on0381_01" 1002) (.ref 509))), #[]⟩
noncomputable abbrev o572 (P : Params) : Obj := ⟨(.type "tuple"), none, (.seq #[] 0), #[]⟩
noncomputable abbrev o573 (P : Params) : Obj := ⟨.none, none, (.fields #[]), #[]⟩
noncomputable abbrev o574 (P : Params) : Obj := ⟨(.type "tuple"), none, (.seq #[(.str "deck" 1034), (.str "many" 1035)] 0), #[]⟩
noncomputable abbrev o575 (P : Params) : Obj := ⟨(.type "tuple"), none, (.seq #[] 0), #[]⟩
noncomputable abbrev o576 (P : Params) : Obj := ⟨.none, none, (.func (fc (at_ 64) "_law_draw")), #[]⟩
noncomputable abbrev o577 (P : Params) : Obj := ⟨(.type "code"), none, (.fields #[(.str "_law_draw" 1031), (.str "_law_draw" 1032), (.str "/claim/cut.py" 1033), (.int 349 0), (.int 2 0), (.int 0 0), (.int 0 0), (.int 3 0), (.ref 511), (.bool true), (.int 181 0), (.ref 512), .none, (.ref 513), (.ref 514), (.ref 515), (.int 1036 0), (.int 349 0), (.str "/claim/cut.py" 1037)]), #[]⟩
noncomputable abbrev o578 (P : Params) : Obj := ⟨(.type "function"), none, (.func (ff (at_ 64) "_law_draw" 3 .none (.str "law_on0381_01" 1002) (.ref 516))), #[]⟩
noncomputable abbrev o579 (P : Params) : Obj := ⟨(.type "tuple"), none, (.seq #[] 0), #[]⟩
noncomputable abbrev o580 (P : Params) : Obj := ⟨.none, none, (.fields #[]), #[]⟩
noncomputable abbrev o581 (P : Params) : Obj := ⟨(.type "tuple"), none, (.seq #[(.str "sorts" 1042), (.str "data" 1043), (.str "at" 1044), (.str "word" 1045)] 0), #[]⟩
noncomputable abbrev o582 (P : Params) : Obj := ⟨(.type "tuple"), none, (.seq #[] 0), #[]⟩
noncomputable abbrev o583 (P : Params) : Obj := ⟨.none, none, (.func (fc (at_ 65) "_law_data")), #[]⟩
noncomputable abbrev o584 (P : Params) : Obj := ⟨(.type "code"), none, (.fields #[(.str "_law_data" 1039), (.str "_law_data" 1040), (.str "/claim/cut.py" 1041), (.int 354 0), (.int 1 0), (.int 0 0), (.int 0 0), (.int 3 0), (.ref 518), (.bool true), (.int 181 0), (.ref 519), .none, (.ref 520), (.ref 521), (.ref 522), (.int 1046 0), (.int 354 0), (.str "/claim/cut.py" 1047)]), #[]⟩
noncomputable abbrev o585 (P : Params) : Obj := ⟨(.type "function"), none, (.func (ff (at_ 65) "_law_data" 3 .none (.str "law_on0381_01" 1002) (.ref 523))), #[]⟩
noncomputable abbrev o586 (P : Params) : Obj := ⟨(.type "tuple"), none, (.seq #[] 0), #[]⟩
noncomputable abbrev o587 (P : Params) : Obj := ⟨.none, none, (.fields #[]), #[]⟩
noncomputable abbrev o588 (P : Params) : Obj := ⟨(.type "tuple"), none, (.seq #[(.str "some" 1052), (.str "at" 1053), (.str "bases" 1054), (.str "near" 1055), (.str "far" 1056)] 0), #[]⟩
noncomputable abbrev o589 (P : Params) : Obj := ⟨(.type "tuple"), none, (.seq #[] 0), #[]⟩
noncomputable abbrev o590 (P : Params) : Obj := ⟨.none, none, (.func (fc (at_ 66) "_law_is_held")), #[]⟩
noncomputable abbrev o591 (P : Params) : Obj := ⟨(.type "code"), none, (.fields #[(.str "_law_is_held" 1049), (.str "_law_is_held" 1050), (.str "/claim/cut.py" 1051), (.int 360 0), (.int 2 0), (.int 0 0), (.int 0 0), (.int 3 0), (.ref 525), (.bool true), (.int 181 0), (.ref 526), .none, (.ref 527), (.ref 528), (.ref 529), (.int 1057 0), (.int 360 0), (.str "/claim/cut.py" 1058)]), #[]⟩
noncomputable abbrev o592 (P : Params) : Obj := ⟨(.type "function"), none, (.func (ff (at_ 66) "_law_is_held" 3 .none (.str "law_on0381_01" 1002) (.ref 530))), #[]⟩
noncomputable abbrev o593 (P : Params) : Obj := ⟨(.type "tuple"), none, (.seq #[] 0), #[]⟩
noncomputable abbrev o594 (P : Params) : Obj := ⟨.none, none, (.fields #[]), #[]⟩
noncomputable abbrev o595 (P : Params) : Obj := ⟨.none, none, (.func (fc (at_ 67) "_law_syllables_right")), #[]⟩
noncomputable abbrev o596 (P : Params) : Obj := ⟨(.type "code"), none, (.fields #[(.str "_law_syllables_right" 1060), (.str "_law_syllables_right" 1061), (.str "/claim/cut.py" 1062), (.int 370 0), (.int 1 0), (.int 0 0), (.int 0 0), (.int 3 0), (.ref 532), (.bool true), (.int 181 0), (.ref 533), .none, .none, .none, (.ref 534), (.int 1063 0), (.int 370 0), (.str "/claim/cut.py" 1064)]), #[]⟩
noncomputable abbrev o597 (P : Params) : Obj := ⟨(.type "function"), none, (.func (ff (at_ 67) "_law_syllables_right" 3 .none (.str "law_on0381_01" 1002) (.ref 535))), #[]⟩
noncomputable abbrev o598 (P : Params) : Obj := ⟨(.type "tuple"), none, (.seq #[] 0), #[]⟩
noncomputable abbrev o599 (P : Params) : Obj := ⟨.none, none, (.fields #[]), #[]⟩
noncomputable abbrev o600 (P : Params) : Obj := ⟨.none, none, (.func (fc (at_ 68) "_law_is_number")), #[]⟩
noncomputable abbrev o601 (P : Params) : Obj := ⟨(.type "code"), none, (.fields #[(.str "_law_is_number" 1066), (.str "_law_is_number" 1067), (.str "/claim/cut.py" 1068), (.int 378 0), (.int 1 0), (.int 0 0), (.int 0 0), (.int 3 0), (.ref 537), (.bool true), (.int 181 0), (.ref 538), .none, .none, .none, (.ref 539), (.int 1069 0), (.int 378 0), (.str "/claim/cut.py" 1070)]), #[]⟩
noncomputable abbrev o602 (P : Params) : Obj := ⟨(.type "function"), none, (.func (ff (at_ 68) "_law_is_number" 3 .none (.str "law_on0381_01" 1002) (.ref 540))), #[]⟩
noncomputable abbrev o603 (P : Params) : Obj := ⟨(.type "tuple"), none, (.seq #[] 0), #[]⟩
noncomputable abbrev o604 (P : Params) : Obj := ⟨.none, none, (.fields #[]), #[]⟩
noncomputable abbrev o605 (P : Params) : Obj := ⟨.none, none, (.func (fc (at_ 69) "_law_numbers_right")), #[]⟩
noncomputable abbrev o606 (P : Params) : Obj := ⟨(.type "code"), none, (.fields #[(.str "_law_numbers_right" 1072), (.str "_law_numbers_right" 1073), (.str "/claim/cut.py" 1074), (.int 389 0), (.int 1 0), (.int 0 0), (.int 0 0), (.int 3 0), (.ref 542), (.bool true), (.int 181 0), (.ref 543), .none, .none, .none, (.ref 544), (.int 1075 0), (.int 389 0), (.str "/claim/cut.py" 1076)]), #[]⟩
noncomputable abbrev o607 (P : Params) : Obj := ⟨(.type "function"), none, (.func (ff (at_ 69) "_law_numbers_right" 3 .none (.str "law_on0381_01" 1002) (.ref 545))), #[]⟩
noncomputable abbrev o608 (P : Params) : Obj := ⟨(.type "tuple"), none, (.seq #[] 0), #[]⟩
noncomputable abbrev o609 (P : Params) : Obj := ⟨.none, none, (.fields #[]), #[]⟩
noncomputable abbrev o610 (P : Params) : Obj := ⟨(.type "tuple"), none, (.seq #[(.str "script" 1081), (.str "deck" 1082)] 0), #[]⟩
noncomputable abbrev o611 (P : Params) : Obj := ⟨(.type "tuple"), none, (.seq #[] 0), #[]⟩
noncomputable abbrev o612 (P : Params) : Obj := ⟨.none, none, (.func (fc (at_ 70) "law")), #[]⟩
noncomputable abbrev o613 (P : Params) : Obj := ⟨(.type "code"), none, (.fields #[(.str "law" 1078), (.str "law" 1079), (.str "/claim/cut.py" 1080), (.int 403 0), (.int 1 0), (.int 0 0), (.int 0 0), (.int 3 0), (.ref 547), (.bool true), (.int 181 0), (.ref 548), .none, (.ref 549), (.ref 550), (.ref 551), (.int 1083 0), (.int 403 0), (.str "/claim/cut.py" 1084)]), #[]⟩
noncomputable abbrev o614 (P : Params) : Obj := ⟨(.type "function"), none, (.func (ff (at_ 70) "law" 3 .none (.str "law_on0381_01" 1002) (.ref 552))), #[]⟩
noncomputable abbrev N (v : Params → Obj) (l r : Params → BT) : Params → BT := fun P => .node (v P) (l P) (r P)
noncomputable abbrev Z : Params → BT := fun P => .nil
noncomputable abbrev F (v : Params → Obj) : Params → BT := fun P => .node (v P) .nil .nil
noncomputable def tree_47 : Params → BT := (N boot_o_0 (N boot_o_1 (N boot_o_3 (F boot_o_7) (F o43)) (N boot_o_5 (F boot_o_9) (F o45))) (N boot_o_2 (N boot_o_4 (F boot_o_8) (F o44)) (N boot_o_6 (F boot_o_10) (F o46))))
noncomputable def tree_79 : Params → BT := (N boot_o_0 (N boot_o_1 (N o50 (N boot_o_7 (N o52 (F o68) Z) (N o60 (F o76) Z)) (N o43 (N o56 (F o72) Z) (F o64))) (N boot_o_5 (N boot_o_9 (N o54 (F o70) Z) (N o62 (F o78) Z)) (N o45 (N o58 (F o74) Z) (F o66)))) (N o49 (N boot_o_4 (N boot_o_8 (N o53 (F o69) Z) (N o61 (F o77) Z)) (N o51 (N o57 (F o73) Z) (F o65))) (N boot_o_6 (N boot_o_10 (N o55 (F o71) Z) (N o63 (F o79) Z)) (N o46 (N o59 (F o75) Z) (F o67)))))
noncomputable def tree_110 : Params → BT := (N boot_o_0 (N boot_o_1 (N o80 (N boot_o_7 (N o52 (N o68 (F o103) Z) (F o87)) (N o60 (F o82) (F o95))) (N o43 (N o56 (N o72 (F o107) Z) (F o91)) (N o64 (F o83) (F o99)))) (N boot_o_5 (N boot_o_9 (N o54 (N o70 (F o105) Z) (F o89)) (N o62 (F o78) (F o97))) (N o45 (N o58 (N o74 (F o109) Z) (F o93)) (N o66 (F o85) (F o101))))) (N o49 (N boot_o_4 (N boot_o_8 (N o53 (N o69 (F o104) Z) (F o88)) (N o61 (F o77) (F o96))) (N o81 (N o57 (N o73 (F o108) Z) (F o92)) (N o65 (F o84) (F o100)))) (N boot_o_6 (N boot_o_10 (N o55 (N o71 (F o106) Z) (F o90)) (N o63 (F o79) (F o98))) (N o46 (N o59 (N o75 (F o110) Z) (F o94)) (N o67 (F o86) (F o102))))))
noncomputable def tree_145 : Params → BT := (N boot_o_0 (N boot_o_1 (N o111 (N boot_o_7 (N o52 (N o68 (F o103) (F o136)) (N o87 (F o120) Z)) (N o60 (N o82 (F o112) (F o144)) (N o95 (F o128) Z))) (N o43 (N o56 (N o72 (F o107) (F o140)) (N o91 (F o124) Z)) (N o64 (N o83 (F o116) Z) (N o99 (F o132) Z)))) (N boot_o_5 (N boot_o_9 (N o54 (N o70 (F o105) (F o138)) (N o89 (F o122) Z)) (N o62 (N o78 (F o114) Z) (N o97 (F o130) Z))) (N o45 (N o58 (N o74 (F o109) (F o142)) (N o93 (F o126) Z)) (N o66 (N o85 (F o118) Z) (N o101 (F o134) Z))))) (N o49 (N boot_o_4 (N boot_o_8 (N o53 (N o69 (F o104) (F o137)) (N o88 (F o121) Z)) (N o61 (N o77 (F o113) (F o145)) (N o96 (F o129) Z))) (N o81 (N o57 (N o73 (F o108) (F o141)) (N o92 (F o125) Z)) (N o65 (N o84 (F o117) Z) (N o100 (F o133) Z)))) (N boot_o_6 (N boot_o_10 (N o55 (N o71 (F o106) (F o139)) (N o90 (F o123) Z)) (N o63 (N o79 (F o115) Z) (N o98 (F o131) Z))) (N o46 (N o59 (N o75 (F o110) (F o143)) (N o94 (F o127) Z)) (N o67 (N o86 (F o119) Z) (N o102 (F o135) Z))))))
noncomputable def tree_185 : Params → BT := (N boot_o_0 (N boot_o_1 (N o148 (N boot_o_7 (N o52 (N o68 (N o103 (F o172) Z) (F o136)) (N o87 (F o120) (F o156))) (N o60 (N o82 (N o112 (F o180) Z) (F o144)) (N o95 (F o128) (F o164)))) (N o43 (N o56 (N o72 (N o107 (F o176) Z) (F o140)) (N o91 (F o124) (F o160))) (N o64 (N o83 (N o116 (F o184) Z) (F o152)) (N o99 (F o132) (F o168))))) (N boot_o_5 (N boot_o_9 (N o54 (N o70 (N o105 (F o174) Z) (F o138)) (N o89 (F o122) (F o158))) (N o62 (N o78 (N o114 (F o182) Z) (F o150)) (N o97 (F o130) (F o166)))) (N o45 (N o58 (N o74 (N o109 (F o178) Z) (F o142)) (N o93 (F o126) (F o162))) (N o66 (N o85 (F o118) (F o154)) (N o101 (F o134) (F o170)))))) (N o49 (N boot_o_4 (N boot_o_8 (N o53 (N o69 (N o104 (F o173) Z) (F o137)) (N o88 (F o121) (F o157))) (N o61 (N o77 (N o113 (F o181) Z) (F o145)) (N o96 (F o129) (F o165)))) (N o149 (N o57 (N o73 (N o108 (F o177) Z) (F o141)) (N o92 (F o125) (F o161))) (N o65 (N o84 (N o117 (F o185) Z) (F o153)) (N o100 (F o133) (F o169))))) (N boot_o_6 (N boot_o_10 (N o55 (N o71 (N o106 (F o175) Z) (F o139)) (N o90 (F o123) (F o159))) (N o63 (N o79 (N o115 (F o183) Z) (F o151)) (N o98 (F o131) (F o167)))) (N o46 (N o59 (N o75 (N o110 (F o179) Z) (F o143)) (N o94 (F o127) (F o163))) (N o67 (N o86 (F o119) (F o155)) (N o102 (F o135) (F o171)))))))
noncomputable def tree_215 : Params → BT := (N boot_o_0 (N boot_o_1 (N o186 (N boot_o_7 (N o52 (N o68 (N o103 (F o172) Z) (N o136 (F o206) Z)) (N o87 (N o120 (F o190) Z) (F o156))) (N o60 (N o82 (N o112 (F o180) Z) (N o144 (F o214) Z)) (N o95 (N o128 (F o198) Z) (F o164)))) (N o43 (N o56 (N o72 (N o107 (F o176) Z) (N o140 (F o210) Z)) (N o91 (N o124 (F o194) Z) (F o160))) (N o64 (N o83 (N o116 (F o184) Z) (F o152)) (N o99 (N o132 (F o202) Z) (F o168))))) (N boot_o_5 (N boot_o_9 (N o54 (N o70 (N o105 (F o174) Z) (N o138 (F o208) Z)) (N o89 (N o122 (F o192) Z) (F o158))) (N o62 (N o78 (N o114 (F o182) Z) (F o150)) (N o97 (N o130 (F o200) Z) (F o166)))) (N o45 (N o58 (N o74 (N o109 (F o178) Z) (N o142 (F o212) Z)) (N o93 (N o126 (F o196) Z) (F o162))) (N o66 (N o85 (N o118 (F o188) Z) (F o154)) (N o101 (N o134 (F o204) Z) (F o170)))))) (N o49 (N boot_o_4 (N boot_o_8 (N o53 (N o69 (N o104 (F o173) Z) (N o137 (F o207) Z)) (N o88 (N o121 (F o191) Z) (F o157))) (N o61 (N o77 (N o113 (F o181) Z) (N o145 (F o215) Z)) (N o96 (N o129 (F o199) Z) (F o165)))) (N o187 (N o57 (N o73 (N o108 (F o177) Z) (N o141 (F o211) Z)) (N o92 (N o125 (F o195) Z) (F o161))) (N o65 (N o84 (N o117 (F o185) Z) (F o153)) (N o100 (N o133 (F o203) Z) (F o169))))) (N boot_o_6 (N boot_o_10 (N o55 (N o71 (N o106 (F o175) Z) (N o139 (F o209) Z)) (N o90 (N o123 (F o193) Z) (F o159))) (N o63 (N o79 (N o115 (F o183) Z) (F o151)) (N o98 (N o131 (F o201) Z) (F o167)))) (N o46 (N o59 (N o75 (N o110 (F o179) Z) (N o143 (F o213) Z)) (N o94 (N o127 (F o197) Z) (F o163))) (N o67 (N o86 (N o119 (F o189) Z) (F o155)) (N o102 (N o135 (F o205) Z) (F o171)))))))
noncomputable def tree_273 : Params → BT := (N boot_o_0 (N boot_o_1 (N o216 (N boot_o_7 (N o52 (N o68 (N o103 (F o172) (F o240)) (N o136 (F o206) (F o272))) (N o87 (N o120 (F o190) (F o256)) (N o156 (F o224) Z))) (N o60 (N o82 (N o112 (F o180) (F o248)) (N o144 (F o214) Z)) (N o95 (N o128 (F o198) (F o264)) (N o164 (F o232) Z)))) (N o43 (N o56 (N o72 (N o107 (F o176) (F o244)) (N o140 (F o210) Z)) (N o91 (N o124 (F o194) (F o260)) (N o160 (F o228) Z))) (N o64 (N o83 (N o116 (F o184) (F o252)) (N o152 (F o220) Z)) (N o99 (N o132 (F o202) (F o268)) (N o168 (F o236) Z))))) (N boot_o_5 (N boot_o_9 (N o54 (N o70 (N o105 (F o174) (F o242)) (N o138 (F o208) Z)) (N o89 (N o122 (F o192) (F o258)) (N o158 (F o226) Z))) (N o62 (N o78 (N o114 (F o182) (F o250)) (N o150 (F o218) Z)) (N o97 (N o130 (F o200) (F o266)) (N o166 (F o234) Z)))) (N o45 (N o58 (N o74 (N o109 (F o178) (F o246)) (N o142 (F o212) Z)) (N o93 (N o126 (F o196) (F o262)) (N o162 (F o230) Z))) (N o66 (N o85 (N o118 (F o188) (F o254)) (N o154 (F o222) Z)) (N o101 (N o134 (F o204) (F o270)) (N o170 (F o238) Z)))))) (N o49 (N boot_o_4 (N boot_o_8 (N o53 (N o69 (N o104 (F o173) (F o241)) (N o137 (F o207) (F o273))) (N o88 (N o121 (F o191) (F o257)) (N o157 (F o225) Z))) (N o61 (N o77 (N o113 (F o181) (F o249)) (N o145 (F o215) Z)) (N o96 (N o129 (F o199) (F o265)) (N o165 (F o233) Z)))) (N o217 (N o57 (N o73 (N o108 (F o177) (F o245)) (N o141 (F o211) Z)) (N o92 (N o125 (F o195) (F o261)) (N o161 (F o229) Z))) (N o65 (N o84 (N o117 (F o185) (F o253)) (N o153 (F o221) Z)) (N o100 (N o133 (F o203) (F o269)) (N o169 (F o237) Z))))) (N boot_o_6 (N boot_o_10 (N o55 (N o71 (N o106 (F o175) (F o243)) (N o139 (F o209) Z)) (N o90 (N o123 (F o193) (F o259)) (N o159 (F o227) Z))) (N o63 (N o79 (N o115 (F o183) (F o251)) (N o151 (F o219) Z)) (N o98 (N o131 (F o201) (F o267)) (N o167 (F o235) Z)))) (N o46 (N o59 (N o75 (N o110 (F o179) (F o247)) (N o143 (F o213) Z)) (N o94 (N o127 (F o197) (F o263)) (N o163 (F o231) Z))) (N o67 (N o86 (N o119 (F o189) (F o255)) (N o155 (F o223) Z)) (N o102 (N o135 (F o205) (F o271)) (N o171 (F o239) Z)))))))
noncomputable def tree_359 : Params → BT := (N boot_o_0 (N boot_o_1 (N o274 (N boot_o_7 (N o52 (N o68 (N o103 (N o172 (F o306) Z) (F o240)) (N o136 (N o206 (F o338) Z) (F o272))) (N o87 (N o120 (N o190 (F o322) Z) (F o256)) (N o156 (N o224 (F o354) Z) (F o290)))) (N o60 (N o82 (N o112 (N o180 (F o314) Z) (F o248)) (N o144 (N o214 (F o346) Z) (F o282))) (N o95 (N o128 (N o198 (F o330) Z) (F o264)) (N o164 (F o232) (F o298))))) (N o43 (N o56 (N o72 (N o107 (N o176 (F o310) Z) (F o244)) (N o140 (N o210 (F o342) Z) (F o278))) (N o91 (N o124 (N o194 (F o326) Z) (F o260)) (N o160 (N o228 (F o358) Z) (F o294)))) (N o64 (N o83 (N o116 (N o184 (F o318) Z) (F o252)) (N o152 (N o220 (F o350) Z) (F o286))) (N o99 (N o132 (N o202 (F o334) Z) (F o268)) (N o168 (F o236) (F o302)))))) (N boot_o_5 (N boot_o_9 (N o54 (N o70 (N o105 (N o174 (F o308) Z) (F o242)) (N o138 (N o208 (F o340) Z) (F o276))) (N o89 (N o122 (N o192 (F o324) Z) (F o258)) (N o158 (N o226 (F o356) Z) (F o292)))) (N o62 (N o78 (N o114 (N o182 (F o316) Z) (F o250)) (N o150 (N o218 (F o348) Z) (F o284))) (N o97 (N o130 (N o200 (F o332) Z) (F o266)) (N o166 (F o234) (F o300))))) (N o45 (N o58 (N o74 (N o109 (N o178 (F o312) Z) (F o246)) (N o142 (N o212 (F o344) Z) (F o280))) (N o93 (N o126 (N o196 (F o328) Z) (F o262)) (N o162 (F o230) (F o296)))) (N o66 (N o85 (N o118 (N o188 (F o320) Z) (F o254)) (N o154 (N o222 (F o352) Z) (F o288))) (N o101 (N o134 (N o204 (F o336) Z) (F o270)) (N o170 (F o238) (F o304))))))) (N o49 (N boot_o_4 (N boot_o_8 (N o53 (N o69 (N o104 (N o173 (F o307) Z) (F o241)) (N o137 (N o207 (F o339) Z) (F o273))) (N o88 (N o121 (N o191 (F o323) Z) (F o257)) (N o157 (N o225 (F o355) Z) (F o291)))) (N o61 (N o77 (N o113 (N o181 (F o315) Z) (F o249)) (N o145 (N o215 (F o347) Z) (F o283))) (N o96 (N o129 (N o199 (F o331) Z) (F o265)) (N o165 (F o233) (F o299))))) (N o275 (N o57 (N o73 (N o108 (N o177 (F o311) Z) (F o245)) (N o141 (N o211 (F o343) Z) (F o279))) (N o92 (N o125 (N o195 (F o327) Z) (F o261)) (N o161 (N o229 (F o359) Z) (F o295)))) (N o65 (N o84 (N o117 (N o185 (F o319) Z) (F o253)) (N o153 (N o221 (F o351) Z) (F o287))) (N o100 (N o133 (N o203 (F o335) Z) (F o269)) (N o169 (F o237) (F o303)))))) (N boot_o_6 (N boot_o_10 (N o55 (N o71 (N o106 (N o175 (F o309) Z) (F o243)) (N o139 (N o209 (F o341) Z) (F o277))) (N o90 (N o123 (N o193 (F o325) Z) (F o259)) (N o159 (N o227 (F o357) Z) (F o293)))) (N o63 (N o79 (N o115 (N o183 (F o317) Z) (F o251)) (N o151 (N o219 (F o349) Z) (F o285))) (N o98 (N o131 (N o201 (F o333) Z) (F o267)) (N o167 (F o235) (F o301))))) (N o46 (N o59 (N o75 (N o110 (N o179 (F o313) Z) (F o247)) (N o143 (N o213 (F o345) Z) (F o281))) (N o94 (N o127 (N o197 (F o329) Z) (F o263)) (N o163 (F o231) (F o297)))) (N o67 (N o86 (N o119 (N o189 (F o321) Z) (F o255)) (N o155 (N o223 (F o353) Z) (F o289))) (N o102 (N o135 (N o205 (F o337) Z) (F o271)) (N o171 (F o239) (F o305))))))))
noncomputable def tree_396 : Params → BT := (N boot_o_0 (N boot_o_1 (N o360 (N boot_o_7 (N o52 (N o68 (N o103 (N o172 (F o306) Z) (N o240 (F o372) Z)) (N o136 (N o206 (F o338) Z) (F o272))) (N o87 (N o120 (N o190 (F o322) Z) (N o256 (F o388) Z)) (N o156 (N o224 (F o354) Z) (F o290)))) (N o60 (N o82 (N o112 (N o180 (F o314) Z) (N o248 (F o380) Z)) (N o144 (N o214 (F o346) Z) (F o282))) (N o95 (N o128 (N o198 (F o330) Z) (N o264 (F o396) Z)) (N o164 (N o232 (F o364) Z) (F o298))))) (N o43 (N o56 (N o72 (N o107 (N o176 (F o310) Z) (N o244 (F o376) Z)) (N o140 (N o210 (F o342) Z) (F o278))) (N o91 (N o124 (N o194 (F o326) Z) (N o260 (F o392) Z)) (N o160 (N o228 (F o358) Z) (F o294)))) (N o64 (N o83 (N o116 (N o184 (F o318) Z) (N o252 (F o384) Z)) (N o152 (N o220 (F o350) Z) (F o286))) (N o99 (N o132 (N o202 (F o334) Z) (F o268)) (N o168 (N o236 (F o368) Z) (F o302)))))) (N boot_o_5 (N boot_o_9 (N o54 (N o70 (N o105 (N o174 (F o308) Z) (N o242 (F o374) Z)) (N o138 (N o208 (F o340) Z) (F o276))) (N o89 (N o122 (N o192 (F o324) Z) (N o258 (F o390) Z)) (N o158 (N o226 (F o356) Z) (F o292)))) (N o62 (N o78 (N o114 (N o182 (F o316) Z) (N o250 (F o382) Z)) (N o150 (N o218 (F o348) Z) (F o284))) (N o97 (N o130 (N o200 (F o332) Z) (F o266)) (N o166 (N o234 (F o366) Z) (F o300))))) (N o45 (N o58 (N o74 (N o109 (N o178 (F o312) Z) (N o246 (F o378) Z)) (N o142 (N o212 (F o344) Z) (F o280))) (N o93 (N o126 (N o196 (F o328) Z) (N o262 (F o394) Z)) (N o162 (N o230 (F o362) Z) (F o296)))) (N o66 (N o85 (N o118 (N o188 (F o320) Z) (N o254 (F o386) Z)) (N o154 (N o222 (F o352) Z) (F o288))) (N o101 (N o134 (N o204 (F o336) Z) (F o270)) (N o170 (N o238 (F o370) Z) (F o304))))))) (N o49 (N boot_o_4 (N boot_o_8 (N o53 (N o69 (N o104 (N o173 (F o307) Z) (N o241 (F o373) Z)) (N o137 (N o207 (F o339) Z) (F o273))) (N o88 (N o121 (N o191 (F o323) Z) (N o257 (F o389) Z)) (N o157 (N o225 (F o355) Z) (F o291)))) (N o61 (N o77 (N o113 (N o181 (F o315) Z) (N o249 (F o381) Z)) (N o145 (N o215 (F o347) Z) (F o283))) (N o96 (N o129 (N o199 (F o331) Z) (F o265)) (N o165 (N o233 (F o365) Z) (F o299))))) (N o361 (N o57 (N o73 (N o108 (N o177 (F o311) Z) (N o245 (F o377) Z)) (N o141 (N o211 (F o343) Z) (F o279))) (N o92 (N o125 (N o195 (F o327) Z) (N o261 (F o393) Z)) (N o161 (N o229 (F o359) Z) (F o295)))) (N o65 (N o84 (N o117 (N o185 (F o319) Z) (N o253 (F o385) Z)) (N o153 (N o221 (F o351) Z) (F o287))) (N o100 (N o133 (N o203 (F o335) Z) (F o269)) (N o169 (N o237 (F o369) Z) (F o303)))))) (N boot_o_6 (N boot_o_10 (N o55 (N o71 (N o106 (N o175 (F o309) Z) (N o243 (F o375) Z)) (N o139 (N o209 (F o341) Z) (F o277))) (N o90 (N o123 (N o193 (F o325) Z) (N o259 (F o391) Z)) (N o159 (N o227 (F o357) Z) (F o293)))) (N o63 (N o79 (N o115 (N o183 (F o317) Z) (N o251 (F o383) Z)) (N o151 (N o219 (F o349) Z) (F o285))) (N o98 (N o131 (N o201 (F o333) Z) (F o267)) (N o167 (N o235 (F o367) Z) (F o301))))) (N o46 (N o59 (N o75 (N o110 (N o179 (F o313) Z) (N o247 (F o379) Z)) (N o143 (N o213 (F o345) Z) (F o281))) (N o94 (N o127 (N o197 (F o329) Z) (N o263 (F o395) Z)) (N o163 (N o231 (F o363) Z) (F o297)))) (N o67 (N o86 (N o119 (N o189 (F o321) Z) (N o255 (F o387) Z)) (N o155 (N o223 (F o353) Z) (F o289))) (N o102 (N o135 (N o205 (F o337) Z) (F o271)) (N o171 (N o239 (F o371) Z) (F o305))))))))
noncomputable def tree_453 : Params → BT := (N boot_o_0 (N boot_o_1 (N o397 (N boot_o_7 (N o52 (N o68 (N o103 (N o172 (F o306) (F o438)) (N o240 (F o372) Z)) (N o136 (N o206 (F o338) Z) (N o272 (F o406) Z))) (N o87 (N o120 (N o190 (F o322) Z) (N o256 (F o388) Z)) (N o156 (N o224 (F o354) Z) (N o290 (F o422) Z)))) (N o60 (N o82 (N o112 (N o180 (F o314) (F o446)) (N o248 (F o380) Z)) (N o144 (N o214 (F o346) Z) (N o282 (F o414) Z))) (N o95 (N o128 (N o198 (F o330) Z) (N o264 (F o396) Z)) (N o164 (N o232 (F o364) Z) (N o298 (F o430) Z))))) (N o43 (N o56 (N o72 (N o107 (N o176 (F o310) (F o442)) (N o244 (F o376) Z)) (N o140 (N o210 (F o342) Z) (N o278 (F o410) Z))) (N o91 (N o124 (N o194 (F o326) Z) (N o260 (F o392) Z)) (N o160 (N o228 (F o358) Z) (N o294 (F o426) Z)))) (N o64 (N o83 (N o116 (N o184 (F o318) (F o450)) (N o252 (F o384) Z)) (N o152 (N o220 (F o350) Z) (N o286 (F o418) Z))) (N o99 (N o132 (N o202 (F o334) Z) (N o268 (F o402) Z)) (N o168 (N o236 (F o368) Z) (N o302 (F o434) Z)))))) (N boot_o_5 (N boot_o_9 (N o54 (N o70 (N o105 (N o174 (F o308) (F o440)) (N o242 (F o374) Z)) (N o138 (N o208 (F o340) Z) (N o276 (F o408) Z))) (N o89 (N o122 (N o192 (F o324) Z) (N o258 (F o390) Z)) (N o158 (N o226 (F o356) Z) (N o292 (F o424) Z)))) (N o62 (N o78 (N o114 (N o182 (F o316) (F o448)) (N o250 (F o382) Z)) (N o150 (N o218 (F o348) Z) (N o284 (F o416) Z))) (N o97 (N o130 (N o200 (F o332) Z) (N o266 (F o400) Z)) (N o166 (N o234 (F o366) Z) (N o300 (F o432) Z))))) (N o45 (N o58 (N o74 (N o109 (N o178 (F o312) (F o444)) (N o246 (F o378) Z)) (N o142 (N o212 (F o344) Z) (N o280 (F o412) Z))) (N o93 (N o126 (N o196 (F o328) Z) (N o262 (F o394) Z)) (N o162 (N o230 (F o362) Z) (N o296 (F o428) Z)))) (N o66 (N o85 (N o118 (N o188 (F o320) (F o452)) (N o254 (F o386) Z)) (N o154 (N o222 (F o352) Z) (N o288 (F o420) Z))) (N o101 (N o134 (N o204 (F o336) Z) (N o270 (F o404) Z)) (N o170 (N o238 (F o370) Z) (N o304 (F o436) Z))))))) (N o49 (N boot_o_4 (N boot_o_8 (N o53 (N o69 (N o104 (N o173 (F o307) (F o439)) (N o241 (F o373) Z)) (N o137 (N o207 (F o339) Z) (N o273 (F o407) Z))) (N o88 (N o121 (N o191 (F o323) Z) (N o257 (F o389) Z)) (N o157 (N o225 (F o355) Z) (N o291 (F o423) Z)))) (N o61 (N o77 (N o113 (N o181 (F o315) (F o447)) (N o249 (F o381) Z)) (N o145 (N o215 (F o347) Z) (N o283 (F o415) Z))) (N o96 (N o129 (N o199 (F o331) Z) (N o265 (F o399) Z)) (N o165 (N o233 (F o365) Z) (N o299 (F o431) Z))))) (N o398 (N o57 (N o73 (N o108 (N o177 (F o311) (F o443)) (N o245 (F o377) Z)) (N o141 (N o211 (F o343) Z) (N o279 (F o411) Z))) (N o92 (N o125 (N o195 (F o327) Z) (N o261 (F o393) Z)) (N o161 (N o229 (F o359) Z) (N o295 (F o427) Z)))) (N o65 (N o84 (N o117 (N o185 (F o319) (F o451)) (N o253 (F o385) Z)) (N o153 (N o221 (F o351) Z) (N o287 (F o419) Z))) (N o100 (N o133 (N o203 (F o335) Z) (N o269 (F o403) Z)) (N o169 (N o237 (F o369) Z) (N o303 (F o435) Z)))))) (N boot_o_6 (N boot_o_10 (N o55 (N o71 (N o106 (N o175 (F o309) (F o441)) (N o243 (F o375) Z)) (N o139 (N o209 (F o341) Z) (N o277 (F o409) Z))) (N o90 (N o123 (N o193 (F o325) Z) (N o259 (F o391) Z)) (N o159 (N o227 (F o357) Z) (N o293 (F o425) Z)))) (N o63 (N o79 (N o115 (N o183 (F o317) (F o449)) (N o251 (F o383) Z)) (N o151 (N o219 (F o349) Z) (N o285 (F o417) Z))) (N o98 (N o131 (N o201 (F o333) Z) (N o267 (F o401) Z)) (N o167 (N o235 (F o367) Z) (N o301 (F o433) Z))))) (N o46 (N o59 (N o75 (N o110 (N o179 (F o313) (F o445)) (N o247 (F o379) Z)) (N o143 (N o213 (F o345) Z) (N o281 (F o413) Z))) (N o94 (N o127 (N o197 (F o329) Z) (N o263 (F o395) Z)) (N o163 (N o231 (F o363) Z) (N o297 (F o429) Z)))) (N o67 (N o86 (N o119 (N o189 (F o321) (F o453)) (N o255 (F o387) Z)) (N o155 (N o223 (F o353) Z) (N o289 (F o421) Z))) (N o102 (N o135 (N o205 (F o337) Z) (N o271 (F o405) Z)) (N o171 (N o239 (F o371) Z) (N o305 (F o437) Z))))))))
noncomputable def tree_511 : Params → BT := (N boot_o_0 (N boot_o_1 (N o454 (N boot_o_7 (N o52 (N o68 (N o103 (N o172 (F o306) (F o438)) (N o240 (F o372) (F o504))) (N o136 (N o206 (F o338) (F o472)) (N o272 (F o406) Z))) (N o87 (N o120 (N o190 (F o322) (F o456)) (N o256 (F o388) Z)) (N o156 (N o224 (F o354) (F o488)) (N o290 (F o422) Z)))) (N o60 (N o82 (N o112 (N o180 (F o314) (F o446)) (N o248 (F o380) Z)) (N o144 (N o214 (F o346) (F o480)) (N o282 (F o414) Z))) (N o95 (N o128 (N o198 (F o330) (F o464)) (N o264 (F o396) Z)) (N o164 (N o232 (F o364) (F o496)) (N o298 (F o430) Z))))) (N o43 (N o56 (N o72 (N o107 (N o176 (F o310) (F o442)) (N o244 (F o376) (F o508))) (N o140 (N o210 (F o342) (F o476)) (N o278 (F o410) Z))) (N o91 (N o124 (N o194 (F o326) (F o460)) (N o260 (F o392) Z)) (N o160 (N o228 (F o358) (F o492)) (N o294 (F o426) Z)))) (N o64 (N o83 (N o116 (N o184 (F o318) (F o450)) (N o252 (F o384) Z)) (N o152 (N o220 (F o350) (F o484)) (N o286 (F o418) Z))) (N o99 (N o132 (N o202 (F o334) (F o468)) (N o268 (F o402) Z)) (N o168 (N o236 (F o368) (F o500)) (N o302 (F o434) Z)))))) (N boot_o_5 (N boot_o_9 (N o54 (N o70 (N o105 (N o174 (F o308) (F o440)) (N o242 (F o374) (F o506))) (N o138 (N o208 (F o340) (F o474)) (N o276 (F o408) Z))) (N o89 (N o122 (N o192 (F o324) (F o458)) (N o258 (F o390) Z)) (N o158 (N o226 (F o356) (F o490)) (N o292 (F o424) Z)))) (N o62 (N o78 (N o114 (N o182 (F o316) (F o448)) (N o250 (F o382) Z)) (N o150 (N o218 (F o348) (F o482)) (N o284 (F o416) Z))) (N o97 (N o130 (N o200 (F o332) (F o466)) (N o266 (F o400) Z)) (N o166 (N o234 (F o366) (F o498)) (N o300 (F o432) Z))))) (N o45 (N o58 (N o74 (N o109 (N o178 (F o312) (F o444)) (N o246 (F o378) (F o510))) (N o142 (N o212 (F o344) (F o478)) (N o280 (F o412) Z))) (N o93 (N o126 (N o196 (F o328) (F o462)) (N o262 (F o394) Z)) (N o162 (N o230 (F o362) (F o494)) (N o296 (F o428) Z)))) (N o66 (N o85 (N o118 (N o188 (F o320) (F o452)) (N o254 (F o386) Z)) (N o154 (N o222 (F o352) (F o486)) (N o288 (F o420) Z))) (N o101 (N o134 (N o204 (F o336) (F o470)) (N o270 (F o404) Z)) (N o170 (N o238 (F o370) (F o502)) (N o304 (F o436) Z))))))) (N o49 (N boot_o_4 (N boot_o_8 (N o53 (N o69 (N o104 (N o173 (F o307) (F o439)) (N o241 (F o373) (F o505))) (N o137 (N o207 (F o339) (F o473)) (N o273 (F o407) Z))) (N o88 (N o121 (N o191 (F o323) (F o457)) (N o257 (F o389) Z)) (N o157 (N o225 (F o355) (F o489)) (N o291 (F o423) Z)))) (N o61 (N o77 (N o113 (N o181 (F o315) (F o447)) (N o249 (F o381) Z)) (N o145 (N o215 (F o347) (F o481)) (N o283 (F o415) Z))) (N o96 (N o129 (N o199 (F o331) (F o465)) (N o265 (F o399) Z)) (N o165 (N o233 (F o365) (F o497)) (N o299 (F o431) Z))))) (N o455 (N o57 (N o73 (N o108 (N o177 (F o311) (F o443)) (N o245 (F o377) (F o509))) (N o141 (N o211 (F o343) (F o477)) (N o279 (F o411) Z))) (N o92 (N o125 (N o195 (F o327) (F o461)) (N o261 (F o393) Z)) (N o161 (N o229 (F o359) (F o493)) (N o295 (F o427) Z)))) (N o65 (N o84 (N o117 (N o185 (F o319) (F o451)) (N o253 (F o385) Z)) (N o153 (N o221 (F o351) (F o485)) (N o287 (F o419) Z))) (N o100 (N o133 (N o203 (F o335) (F o469)) (N o269 (F o403) Z)) (N o169 (N o237 (F o369) (F o501)) (N o303 (F o435) Z)))))) (N boot_o_6 (N boot_o_10 (N o55 (N o71 (N o106 (N o175 (F o309) (F o441)) (N o243 (F o375) (F o507))) (N o139 (N o209 (F o341) (F o475)) (N o277 (F o409) Z))) (N o90 (N o123 (N o193 (F o325) (F o459)) (N o259 (F o391) Z)) (N o159 (N o227 (F o357) (F o491)) (N o293 (F o425) Z)))) (N o63 (N o79 (N o115 (N o183 (F o317) (F o449)) (N o251 (F o383) Z)) (N o151 (N o219 (F o349) (F o483)) (N o285 (F o417) Z))) (N o98 (N o131 (N o201 (F o333) (F o467)) (N o267 (F o401) Z)) (N o167 (N o235 (F o367) (F o499)) (N o301 (F o433) Z))))) (N o46 (N o59 (N o75 (N o110 (N o179 (F o313) (F o445)) (N o247 (F o379) (F o511))) (N o143 (N o213 (F o345) (F o479)) (N o281 (F o413) Z))) (N o94 (N o127 (N o197 (F o329) (F o463)) (N o263 (F o395) Z)) (N o163 (N o231 (F o363) (F o495)) (N o297 (F o429) Z)))) (N o67 (N o86 (N o119 (N o189 (F o321) (F o453)) (N o255 (F o387) Z)) (N o155 (N o223 (F o353) (F o487)) (N o289 (F o421) Z))) (N o102 (N o135 (N o205 (F o337) (F o471)) (N o271 (F o405) Z)) (N o171 (N o239 (F o371) (F o503)) (N o305 (F o437) Z))))))))
noncomputable def tree_563 : Params → BT := (N boot_o_0 (N boot_o_1 (N o512 (N boot_o_7 (N o52 (N o68 (N o103 (N o172 (F o306) (F o438)) (N o240 (F o372) (F o504))) (N o136 (N o206 (F o338) (F o472)) (N o272 (F o406) (F o538)))) (N o87 (N o120 (N o190 (F o322) (F o456)) (N o256 (F o388) (F o522))) (N o156 (N o224 (F o354) (F o488)) (N o290 (F o422) (F o554))))) (N o60 (N o82 (N o112 (N o180 (F o314) (F o446)) (N o248 (F o380) (F o514))) (N o144 (N o214 (F o346) (F o480)) (N o282 (F o414) (F o546)))) (N o95 (N o128 (N o198 (F o330) (F o464)) (N o264 (F o396) (F o530))) (N o164 (N o232 (F o364) (F o496)) (N o298 (F o430) (F o562)))))) (N o43 (N o56 (N o72 (N o107 (N o176 (F o310) (F o442)) (N o244 (F o376) (F o508))) (N o140 (N o210 (F o342) (F o476)) (N o278 (F o410) (F o542)))) (N o91 (N o124 (N o194 (F o326) (F o460)) (N o260 (F o392) (F o526))) (N o160 (N o228 (F o358) (F o492)) (N o294 (F o426) (F o558))))) (N o64 (N o83 (N o116 (N o184 (F o318) (F o450)) (N o252 (F o384) (F o518))) (N o152 (N o220 (F o350) (F o484)) (N o286 (F o418) (F o550)))) (N o99 (N o132 (N o202 (F o334) (F o468)) (N o268 (F o402) (F o534))) (N o168 (N o236 (F o368) (F o500)) (N o302 (F o434) Z)))))) (N boot_o_5 (N boot_o_9 (N o54 (N o70 (N o105 (N o174 (F o308) (F o440)) (N o242 (F o374) (F o506))) (N o138 (N o208 (F o340) (F o474)) (N o276 (F o408) (F o540)))) (N o89 (N o122 (N o192 (F o324) (F o458)) (N o258 (F o390) (F o524))) (N o158 (N o226 (F o356) (F o490)) (N o292 (F o424) (F o556))))) (N o62 (N o78 (N o114 (N o182 (F o316) (F o448)) (N o250 (F o382) (F o516))) (N o150 (N o218 (F o348) (F o482)) (N o284 (F o416) (F o548)))) (N o97 (N o130 (N o200 (F o332) (F o466)) (N o266 (F o400) (F o532))) (N o166 (N o234 (F o366) (F o498)) (N o300 (F o432) Z))))) (N o45 (N o58 (N o74 (N o109 (N o178 (F o312) (F o444)) (N o246 (F o378) (F o510))) (N o142 (N o212 (F o344) (F o478)) (N o280 (F o412) (F o544)))) (N o93 (N o126 (N o196 (F o328) (F o462)) (N o262 (F o394) (F o528))) (N o162 (N o230 (F o362) (F o494)) (N o296 (F o428) (F o560))))) (N o66 (N o85 (N o118 (N o188 (F o320) (F o452)) (N o254 (F o386) (F o520))) (N o154 (N o222 (F o352) (F o486)) (N o288 (F o420) (F o552)))) (N o101 (N o134 (N o204 (F o336) (F o470)) (N o270 (F o404) (F o536))) (N o170 (N o238 (F o370) (F o502)) (N o304 (F o436) Z))))))) (N o49 (N boot_o_4 (N boot_o_8 (N o53 (N o69 (N o104 (N o173 (F o307) (F o439)) (N o241 (F o373) (F o505))) (N o137 (N o207 (F o339) (F o473)) (N o273 (F o407) (F o539)))) (N o88 (N o121 (N o191 (F o323) (F o457)) (N o257 (F o389) (F o523))) (N o157 (N o225 (F o355) (F o489)) (N o291 (F o423) (F o555))))) (N o61 (N o77 (N o113 (N o181 (F o315) (F o447)) (N o249 (F o381) (F o515))) (N o145 (N o215 (F o347) (F o481)) (N o283 (F o415) (F o547)))) (N o96 (N o129 (N o199 (F o331) (F o465)) (N o265 (F o399) (F o531))) (N o165 (N o233 (F o365) (F o497)) (N o299 (F o431) (F o563)))))) (N o513 (N o57 (N o73 (N o108 (N o177 (F o311) (F o443)) (N o245 (F o377) (F o509))) (N o141 (N o211 (F o343) (F o477)) (N o279 (F o411) (F o543)))) (N o92 (N o125 (N o195 (F o327) (F o461)) (N o261 (F o393) (F o527))) (N o161 (N o229 (F o359) (F o493)) (N o295 (F o427) (F o559))))) (N o65 (N o84 (N o117 (N o185 (F o319) (F o451)) (N o253 (F o385) (F o519))) (N o153 (N o221 (F o351) (F o485)) (N o287 (F o419) (F o551)))) (N o100 (N o133 (N o203 (F o335) (F o469)) (N o269 (F o403) (F o535))) (N o169 (N o237 (F o369) (F o501)) (N o303 (F o435) Z)))))) (N boot_o_6 (N boot_o_10 (N o55 (N o71 (N o106 (N o175 (F o309) (F o441)) (N o243 (F o375) (F o507))) (N o139 (N o209 (F o341) (F o475)) (N o277 (F o409) (F o541)))) (N o90 (N o123 (N o193 (F o325) (F o459)) (N o259 (F o391) (F o525))) (N o159 (N o227 (F o357) (F o491)) (N o293 (F o425) (F o557))))) (N o63 (N o79 (N o115 (N o183 (F o317) (F o449)) (N o251 (F o383) (F o517))) (N o151 (N o219 (F o349) (F o483)) (N o285 (F o417) (F o549)))) (N o98 (N o131 (N o201 (F o333) (F o467)) (N o267 (F o401) (F o533))) (N o167 (N o235 (F o367) (F o499)) (N o301 (F o433) Z))))) (N o46 (N o59 (N o75 (N o110 (N o179 (F o313) (F o445)) (N o247 (F o379) (F o511))) (N o143 (N o213 (F o345) (F o479)) (N o281 (F o413) (F o545)))) (N o94 (N o127 (N o197 (F o329) (F o463)) (N o263 (F o395) (F o529))) (N o163 (N o231 (F o363) (F o495)) (N o297 (F o429) (F o561))))) (N o67 (N o86 (N o119 (N o189 (F o321) (F o453)) (N o255 (F o387) (F o521))) (N o155 (N o223 (F o353) (F o487)) (N o289 (F o421) (F o553)))) (N o102 (N o135 (N o205 (F o337) (F o471)) (N o271 (F o405) (F o537))) (N o171 (N o239 (F o371) (F o503)) (N o305 (F o437) Z))))))))
noncomputable def tree_614 : Params → BT := (N boot_o_0 (N boot_o_1 (N o564 (N boot_o_7 (N o52 (N o68 (N o103 (N o172 (N o306 (F o572) Z) (F o438)) (N o240 (F o372) (F o504))) (N o136 (N o206 (N o338 (F o604) Z) (F o472)) (N o272 (F o406) (F o538)))) (N o87 (N o120 (N o190 (N o322 (F o588) Z) (F o456)) (N o256 (F o388) (F o522))) (N o156 (N o224 (F o354) (F o488)) (N o290 (F o422) (F o554))))) (N o60 (N o82 (N o112 (N o180 (N o314 (F o580) Z) (F o446)) (N o248 (F o380) (F o514))) (N o144 (N o214 (N o346 (F o612) Z) (F o480)) (N o282 (F o414) (F o546)))) (N o95 (N o128 (N o198 (N o330 (F o596) Z) (F o464)) (N o264 (F o396) (F o530))) (N o164 (N o232 (F o364) (F o496)) (N o298 (F o430) (F o562)))))) (N o43 (N o56 (N o72 (N o107 (N o176 (N o310 (F o576) Z) (F o442)) (N o244 (F o376) (F o508))) (N o140 (N o210 (N o342 (F o608) Z) (F o476)) (N o278 (F o410) (F o542)))) (N o91 (N o124 (N o194 (N o326 (F o592) Z) (F o460)) (N o260 (F o392) (F o526))) (N o160 (N o228 (F o358) (F o492)) (N o294 (F o426) (F o558))))) (N o64 (N o83 (N o116 (N o184 (N o318 (F o584) Z) (F o450)) (N o252 (F o384) (F o518))) (N o152 (N o220 (F o350) (F o484)) (N o286 (F o418) (F o550)))) (N o99 (N o132 (N o202 (N o334 (F o600) Z) (F o468)) (N o268 (F o402) (F o534))) (N o168 (N o236 (F o368) (F o500)) (N o302 (F o434) (F o568))))))) (N boot_o_5 (N boot_o_9 (N o54 (N o70 (N o105 (N o174 (N o308 (F o574) Z) (F o440)) (N o242 (F o374) (F o506))) (N o138 (N o208 (N o340 (F o606) Z) (F o474)) (N o276 (F o408) (F o540)))) (N o89 (N o122 (N o192 (N o324 (F o590) Z) (F o458)) (N o258 (F o390) (F o524))) (N o158 (N o226 (F o356) (F o490)) (N o292 (F o424) (F o556))))) (N o62 (N o78 (N o114 (N o182 (N o316 (F o582) Z) (F o448)) (N o250 (F o382) (F o516))) (N o150 (N o218 (N o348 (F o614) Z) (F o482)) (N o284 (F o416) (F o548)))) (N o97 (N o130 (N o200 (N o332 (F o598) Z) (F o466)) (N o266 (F o400) (F o532))) (N o166 (N o234 (F o366) (F o498)) (N o300 (F o432) (F o566)))))) (N o45 (N o58 (N o74 (N o109 (N o178 (N o312 (F o578) Z) (F o444)) (N o246 (F o378) (F o510))) (N o142 (N o212 (N o344 (F o610) Z) (F o478)) (N o280 (F o412) (F o544)))) (N o93 (N o126 (N o196 (N o328 (F o594) Z) (F o462)) (N o262 (F o394) (F o528))) (N o162 (N o230 (F o362) (F o494)) (N o296 (F o428) (F o560))))) (N o66 (N o85 (N o118 (N o188 (N o320 (F o586) Z) (F o452)) (N o254 (F o386) (F o520))) (N o154 (N o222 (F o352) (F o486)) (N o288 (F o420) (F o552)))) (N o101 (N o134 (N o204 (N o336 (F o602) Z) (F o470)) (N o270 (F o404) (F o536))) (N o170 (N o238 (F o370) (F o502)) (N o304 (F o436) (F o570)))))))) (N o49 (N boot_o_4 (N boot_o_8 (N o53 (N o69 (N o104 (N o173 (N o307 (F o573) Z) (F o439)) (N o241 (F o373) (F o505))) (N o137 (N o207 (N o339 (F o605) Z) (F o473)) (N o273 (F o407) (F o539)))) (N o88 (N o121 (N o191 (N o323 (F o589) Z) (F o457)) (N o257 (F o389) (F o523))) (N o157 (N o225 (F o355) (F o489)) (N o291 (F o423) (F o555))))) (N o61 (N o77 (N o113 (N o181 (N o315 (F o581) Z) (F o447)) (N o249 (F o381) (F o515))) (N o145 (N o215 (N o347 (F o613) Z) (F o481)) (N o283 (F o415) (F o547)))) (N o96 (N o129 (N o199 (N o331 (F o597) Z) (F o465)) (N o265 (F o399) (F o531))) (N o165 (N o233 (F o365) (F o497)) (N o299 (F o431) (F o563)))))) (N o565 (N o57 (N o73 (N o108 (N o177 (N o311 (F o577) Z) (F o443)) (N o245 (F o377) (F o509))) (N o141 (N o211 (N o343 (F o609) Z) (F o477)) (N o279 (F o411) (F o543)))) (N o92 (N o125 (N o195 (N o327 (F o593) Z) (F o461)) (N o261 (F o393) (F o527))) (N o161 (N o229 (F o359) (F o493)) (N o295 (F o427) (F o559))))) (N o65 (N o84 (N o117 (N o185 (N o319 (F o585) Z) (F o451)) (N o253 (F o385) (F o519))) (N o153 (N o221 (F o351) (F o485)) (N o287 (F o419) (F o551)))) (N o100 (N o133 (N o203 (N o335 (F o601) Z) (F o469)) (N o269 (F o403) (F o535))) (N o169 (N o237 (F o369) (F o501)) (N o303 (F o435) (F o569))))))) (N boot_o_6 (N boot_o_10 (N o55 (N o71 (N o106 (N o175 (N o309 (F o575) Z) (F o441)) (N o243 (F o375) (F o507))) (N o139 (N o209 (N o341 (F o607) Z) (F o475)) (N o277 (F o409) (F o541)))) (N o90 (N o123 (N o193 (N o325 (F o591) Z) (F o459)) (N o259 (F o391) (F o525))) (N o159 (N o227 (F o357) (F o491)) (N o293 (F o425) (F o557))))) (N o63 (N o79 (N o115 (N o183 (N o317 (F o583) Z) (F o449)) (N o251 (F o383) (F o517))) (N o151 (N o219 (F o349) (F o483)) (N o285 (F o417) (F o549)))) (N o98 (N o131 (N o201 (N o333 (F o599) Z) (F o467)) (N o267 (F o401) (F o533))) (N o167 (N o235 (F o367) (F o499)) (N o301 (F o433) (F o567)))))) (N o46 (N o59 (N o75 (N o110 (N o179 (N o313 (F o579) Z) (F o445)) (N o247 (F o379) (F o511))) (N o143 (N o213 (N o345 (F o611) Z) (F o479)) (N o281 (F o413) (F o545)))) (N o94 (N o127 (N o197 (N o329 (F o595) Z) (F o463)) (N o263 (F o395) (F o529))) (N o163 (N o231 (F o363) (F o495)) (N o297 (F o429) (F o561))))) (N o67 (N o86 (N o119 (N o189 (N o321 (F o587) Z) (F o453)) (N o255 (F o387) (F o521))) (N o155 (N o223 (F o353) (F o487)) (N o289 (F o421) (F o553)))) (N o102 (N o135 (N o205 (N o337 (F o603) Z) (F o471)) (N o271 (F o405) (F o537))) (N o171 (N o239 (F o371) (F o503)) (N o305 (F o437) (F o571)))))))))
noncomputable def heap_46 : Params → Heap := fun P => ⟨#[(boot_o_0 P), (boot_o_1 P), (boot_o_2 P), (boot_o_3 P), (boot_o_4 P), (boot_o_5 P), (boot_o_6 P), (boot_o_7 P), (boot_o_8 P), (boot_o_9 P), (boot_o_10 P), (o43 P), (o44 P), (o45 P), (o46 P)], ⟨[], [], [], 0, [], [], false, #[], [], 0, false, false, false, 0, [2000, 10, 10], false, 0, true, [], [], 0, false⟩⟩
noncomputable def heap_615 : Params → Heap := fun P => ⟨#[(boot_o_0 P), (boot_o_1 P), (o49 P), (o564 P), (boot_o_4 P), (boot_o_5 P), (boot_o_6 P), (boot_o_7 P), (boot_o_8 P), (boot_o_9 P), (boot_o_10 P), (o43 P), (o565 P), (o45 P), (o46 P), (o52 P), (o53 P), (o54 P), (o55 P), (o56 P), (o57 P), (o58 P), (o59 P), (o60 P), (o61 P), (o62 P), (o63 P), (o64 P), (o65 P), (o66 P), (o67 P), (o68 P), (o69 P), (o70 P), (o71 P), (o72 P), (o73 P), (o74 P), (o75 P), (o82 P), (o77 P), (o78 P), (o79 P), (o83 P), (o84 P), (o85 P), (o86 P), (o87 P), (o88 P), (o89 P), (o90 P), (o91 P), (o92 P), (o93 P), (o94 P), (o95 P), (o96 P), (o97 P), (o98 P), (o99 P), (o100 P), (o101 P), (o102 P), (o103 P), (o104 P), (o105 P), (o106 P), (o107 P), (o108 P), (o109 P), (o110 P), (o112 P), (o113 P), (o114 P), (o115 P), (o116 P), (o117 P), (o118 P), (o119 P), (o120 P), (o121 P), (o122 P), (o123 P), (o124 P), (o125 P), (o126 P), (o127 P), (o128 P), (o129 P), (o130 P), (o131 P), (o132 P), (o133 P), (o134 P), (o135 P), (o136 P), (o137 P), (o138 P), (o139 P), (o140 P), (o141 P), (o142 P), (o143 P), (o144 P), (o145 P), (o150 P), (o151 P), (o152 P), (o153 P), (o154 P), (o155 P), (o156 P), (o157 P), (o158 P), (o159 P), (o160 P), (o161 P), (o162 P), (o163 P), (o164 P), (o165 P), (o166 P), (o167 P), (o168 P), (o169 P), (o170 P), (o171 P), (o172 P), (o173 P), (o174 P), (o175 P), (o176 P), (o177 P), (o178 P), (o179 P), (o180 P), (o181 P), (o182 P), (o183 P), (o184 P), (o185 P), (o188 P), (o189 P), (o190 P), (o191 P), (o192 P), (o193 P), (o194 P), (o195 P), (o196 P), (o197 P), (o198 P), (o199 P), (o200 P), (o201 P), (o202 P), (o203 P), (o204 P), (o205 P), (o206 P), (o207 P), (o208 P), (o209 P), (o210 P), (o211 P), (o212 P), (o213 P), (o214 P), (o215 P), (o218 P), (o219 P), (o220 P), (o221 P), (o222 P), (o223 P), (o224 P), (o225 P), (o226 P), (o227 P), (o228 P), (o229 P), (o230 P), (o231 P), (o232 P), (o233 P), (o234 P), (o235 P), (o236 P), (o237 P), (o238 P), (o239 P), (o240 P), (o241 P), (o242 P), (o243 P), (o244 P), (o245 P), (o246 P), (o247 P), (o248 P), (o249 P), (o250 P), (o251 P), (o252 P), (o253 P), (o254 P), (o255 P), (o256 P), (o257 P), (o258 P), (o259 P), (o260 P), (o261 P), (o262 P), (o263 P), (o264 P), (o265 P), (o266 P), (o267 P), (o268 P), (o269 P), (o270 P), (o271 P), (o272 P), (o273 P), (o276 P), (o277 P), (o278 P), (o279 P), (o280 P), (o281 P), (o282 P), (o283 P), (o284 P), (o285 P), (o286 P), (o287 P), (o288 P), (o289 P), (o290 P), (o291 P), (o292 P), (o293 P), (o294 P), (o295 P), (o296 P), (o297 P), (o298 P), (o299 P), (o300 P), (o301 P), (o302 P), (o303 P), (o304 P), (o305 P), (o306 P), (o307 P), (o308 P), (o309 P), (o310 P), (o311 P), (o312 P), (o313 P), (o314 P), (o315 P), (o316 P), (o317 P), (o318 P), (o319 P), (o320 P), (o321 P), (o322 P), (o323 P), (o324 P), (o325 P), (o326 P), (o327 P), (o328 P), (o329 P), (o330 P), (o331 P), (o332 P), (o333 P), (o334 P), (o335 P), (o336 P), (o337 P), (o338 P), (o339 P), (o340 P), (o341 P), (o342 P), (o343 P), (o344 P), (o345 P), (o346 P), (o347 P), (o348 P), (o349 P), (o350 P), (o351 P), (o352 P), (o353 P), (o354 P), (o355 P), (o356 P), (o357 P), (o358 P), (o359 P), (o362 P), (o363 P), (o364 P), (o365 P), (o366 P), (o367 P), (o368 P), (o369 P), (o370 P), (o371 P), (o372 P), (o373 P), (o374 P), (o375 P), (o376 P), (o377 P), (o378 P), (o379 P), (o380 P), (o381 P), (o382 P), (o383 P), (o384 P), (o385 P), (o386 P), (o387 P), (o388 P), (o389 P), (o390 P), (o391 P), (o392 P), (o393 P), (o394 P), (o395 P), (o396 P), (o399 P), (o400 P), (o401 P), (o402 P), (o403 P), (o404 P), (o405 P), (o406 P), (o407 P), (o408 P), (o409 P), (o410 P), (o411 P), (o412 P), (o413 P), (o414 P), (o415 P), (o416 P), (o417 P), (o418 P), (o419 P), (o420 P), (o421 P), (o422 P), (o423 P), (o424 P), (o425 P), (o426 P), (o427 P), (o428 P), (o429 P), (o430 P), (o431 P), (o432 P), (o433 P), (o434 P), (o435 P), (o436 P), (o437 P), (o438 P), (o439 P), (o440 P), (o441 P), (o442 P), (o443 P), (o444 P), (o445 P), (o446 P), (o447 P), (o448 P), (o449 P), (o450 P), (o451 P), (o452 P), (o453 P), (o456 P), (o457 P), (o458 P), (o459 P), (o460 P), (o461 P), (o462 P), (o463 P), (o464 P), (o465 P), (o466 P), (o467 P), (o468 P), (o469 P), (o470 P), (o471 P), (o472 P), (o473 P), (o474 P), (o475 P), (o476 P), (o477 P), (o478 P), (o479 P), (o480 P), (o481 P), (o482 P), (o483 P), (o484 P), (o485 P), (o486 P), (o487 P), (o488 P), (o489 P), (o490 P), (o491 P), (o492 P), (o493 P), (o494 P), (o495 P), (o496 P), (o497 P), (o498 P), (o499 P), (o500 P), (o501 P), (o502 P), (o503 P), (o504 P), (o505 P), (o506 P), (o507 P), (o508 P), (o509 P), (o510 P), (o511 P), (o514 P), (o515 P), (o516 P), (o517 P), (o518 P), (o519 P), (o520 P), (o521 P), (o522 P), (o523 P), (o524 P), (o525 P), (o526 P), (o527 P), (o528 P), (o529 P), (o530 P), (o531 P), (o532 P), (o533 P), (o534 P), (o535 P), (o536 P), (o537 P), (o538 P), (o539 P), (o540 P), (o541 P), (o542 P), (o543 P), (o544 P), (o545 P), (o546 P), (o547 P), (o548 P), (o549 P), (o550 P), (o551 P), (o552 P), (o553 P), (o554 P), (o555 P), (o556 P), (o557 P), (o558 P), (o559 P), (o560 P), (o561 P), (o562 P), (o563 P), (o566 P), (o567 P), (o568 P), (o569 P), (o570 P), (o571 P), (o572 P), (o573 P), (o574 P), (o575 P), (o576 P), (o577 P), (o578 P), (o579 P), (o580 P), (o581 P), (o582 P), (o583 P), (o584 P), (o585 P), (o586 P), (o587 P), (o588 P), (o589 P), (o590 P), (o591 P), (o592 P), (o593 P), (o594 P), (o595 P), (o596 P), (o597 P), (o598 P), (o599 P), (o600 P), (o601 P), (o602 P), (o603 P), (o604 P), (o605 P), (o606 P), (o607 P), (o608 P), (o609 P), (o610 P), (o611 P), (o612 P), (o613 P), (o614 P)], ⟨[], [], [], 0, [], [], false, #[], [], 0, false, false, false, 0, [2000, 10, 10], false, 0, true, [], [], 0, false⟩⟩
noncomputable def frag : Params → Frag := fun P => (nat_lit 2, o49 P) :: (nat_lit 3, o564 P) :: (nat_lit 15, o43 P) :: (nat_lit 17, o54 P) :: (nat_lit 18, o43 P) :: (nat_lit 20, o57 P) :: (nat_lit 21, o58 P) :: (nat_lit 22, o59 P) :: (nat_lit 29, o66 P) :: (nat_lit 30, o43 P) :: (nat_lit 32, o69 P) :: (nat_lit 33, o43 P) :: (nat_lit 35, o72 P) :: (nat_lit 36, o73 P) :: (nat_lit 37, o74 P) :: (nat_lit 38, o75 P) :: (nat_lit 39, o82 P) :: (nat_lit 40, o77 P) :: (nat_lit 43, o83 P) :: (nat_lit 50, o43 P) :: (nat_lit 51, o91 P) :: (nat_lit 52, o92 P) :: (nat_lit 55, o43 P) :: (nat_lit 57, o97 P) :: (nat_lit 58, o43 P) :: (nat_lit 60, o100 P) :: (nat_lit 61, o101 P) :: (nat_lit 62, o102 P) :: (nat_lit 63, o103 P) :: (nat_lit 64, o104 P) :: (nat_lit 65, o105 P) :: (nat_lit 66, o106 P) :: (nat_lit 67, o107 P) :: (nat_lit 68, o108 P) :: (nat_lit 69, o109 P) :: (nat_lit 70, o110 P) :: (nat_lit 71, o112 P) :: (nat_lit 72, o113 P) :: (nat_lit 73, o114 P) :: (nat_lit 74, o115 P) :: (nat_lit 75, o116 P) :: (nat_lit 76, o117 P) :: (nat_lit 77, o118 P) :: (nat_lit 78, o119 P) :: (nat_lit 79, o120 P) :: (nat_lit 80, o121 P) :: (nat_lit 81, o122 P) :: (nat_lit 82, o123 P) :: (nat_lit 83, o124 P) :: (nat_lit 84, o125 P) :: (nat_lit 85, o126 P) :: (nat_lit 86, o127 P) :: (nat_lit 87, o128 P) :: (nat_lit 88, o129 P) :: (nat_lit 89, o130 P) :: (nat_lit 90, o131 P) :: (nat_lit 91, o132 P) :: (nat_lit 92, o133 P) :: (nat_lit 93, o134 P) :: (nat_lit 94, o135 P) :: (nat_lit 95, o136 P) :: (nat_lit 96, o137 P) :: (nat_lit 97, o138 P) :: (nat_lit 98, o139 P) :: (nat_lit 99, o140 P) :: (nat_lit 100, o141 P) :: (nat_lit 101, o142 P) :: (nat_lit 102, o143 P) :: (nat_lit 103, o144 P) :: (nat_lit 104, o145 P) :: (nat_lit 112, o157 P) :: (nat_lit 113, o43 P) :: (nat_lit 115, o160 P) :: (nat_lit 116, o43 P) :: (nat_lit 118, o163 P) :: (nat_lit 119, o164 P) :: (nat_lit 120, o165 P) :: (nat_lit 121, o166 P) :: (nat_lit 122, o167 P) :: (nat_lit 123, o168 P) :: (nat_lit 124, o169 P) :: (nat_lit 127, o43 P) :: (nat_lit 129, o174 P) :: (nat_lit 130, o43 P) :: (nat_lit 132, o177 P) :: (nat_lit 133, o178 P) :: (nat_lit 134, o43 P) :: (nat_lit 136, o181 P) :: (nat_lit 137, o43 P) :: (nat_lit 139, o184 P) :: (nat_lit 140, o185 P) :: (nat_lit 148, o43 P) :: (nat_lit 150, o197 P) :: (nat_lit 151, o43 P) :: (nat_lit 153, o200 P) :: (nat_lit 154, o201 P) :: (nat_lit 155, o202 P) :: (nat_lit 156, o203 P) :: (nat_lit 157, o204 P) :: (nat_lit 158, o205 P) :: (nat_lit 159, o206 P) :: (nat_lit 162, o43 P) :: (nat_lit 164, o211 P) :: (nat_lit 165, o43 P) :: (nat_lit 167, o214 P) :: (nat_lit 168, o215 P) :: (nat_lit 176, o43 P) :: (nat_lit 178, o227 P) :: (nat_lit 179, o43 P) :: (nat_lit 181, o230 P) :: (nat_lit 182, o231 P) :: (nat_lit 183, o43 P) :: (nat_lit 185, o234 P) :: (nat_lit 186, o43 P) :: (nat_lit 188, o237 P) :: (nat_lit 189, o238 P) :: (nat_lit 190, o43 P) :: (nat_lit 192, o241 P) :: (nat_lit 193, o43 P) :: (nat_lit 195, o244 P) :: (nat_lit 196, o245 P) :: (nat_lit 197, o43 P) :: (nat_lit 199, o248 P) :: (nat_lit 200, o43 P) :: (nat_lit 202, o251 P) :: (nat_lit 203, o252 P) :: (nat_lit 204, o43 P) :: (nat_lit 206, o255 P) :: (nat_lit 207, o43 P) :: (nat_lit 209, o258 P) :: (nat_lit 210, o259 P) :: (nat_lit 211, o260 P) :: (nat_lit 212, o261 P) :: (nat_lit 213, o262 P) :: (nat_lit 214, o263 P) :: (nat_lit 215, o264 P) :: (nat_lit 218, o43 P) :: (nat_lit 220, o269 P) :: (nat_lit 221, o43 P) :: (nat_lit 223, o272 P) :: (nat_lit 224, o273 P) :: (nat_lit 225, o43 P) :: (nat_lit 227, o278 P) :: (nat_lit 228, o43 P) :: (nat_lit 230, o281 P) :: (nat_lit 231, o282 P) :: (nat_lit 232, o43 P) :: (nat_lit 234, o285 P) :: (nat_lit 235, o43 P) :: (nat_lit 237, o288 P) :: (nat_lit 238, o289 P) :: (nat_lit 239, o43 P) :: (nat_lit 241, o292 P) :: (nat_lit 242, o43 P) :: (nat_lit 244, o295 P) :: (nat_lit 245, o296 P) :: (nat_lit 246, o43 P) :: (nat_lit 248, o299 P) :: (nat_lit 249, o43 P) :: (nat_lit 251, o302 P) :: (nat_lit 252, o303 P) :: (nat_lit 253, o43 P) :: (nat_lit 255, o306 P) :: (nat_lit 256, o43 P) :: (nat_lit 258, o309 P) :: (nat_lit 259, o310 P) :: (nat_lit 260, o43 P) :: (nat_lit 262, o313 P) :: (nat_lit 263, o43 P) :: (nat_lit 265, o316 P) :: (nat_lit 266, o317 P) :: (nat_lit 267, o43 P) :: (nat_lit 269, o320 P) :: (nat_lit 270, o43 P) :: (nat_lit 272, o323 P) :: (nat_lit 273, o324 P) :: (nat_lit 274, o43 P) :: (nat_lit 276, o327 P) :: (nat_lit 277, o43 P) :: (nat_lit 279, o330 P) :: (nat_lit 280, o331 P) :: (nat_lit 281, o43 P) :: (nat_lit 283, o334 P) :: (nat_lit 284, o43 P) :: (nat_lit 286, o337 P) :: (nat_lit 287, o338 P) :: (nat_lit 288, o43 P) :: (nat_lit 290, o341 P) :: (nat_lit 291, o43 P) :: (nat_lit 293, o344 P) :: (nat_lit 294, o345 P) :: (nat_lit 295, o43 P) :: (nat_lit 297, o348 P) :: (nat_lit 298, o43 P) :: (nat_lit 300, o351 P) :: (nat_lit 301, o352 P) :: (nat_lit 302, o43 P) :: (nat_lit 304, o355 P) :: (nat_lit 305, o43 P) :: (nat_lit 307, o358 P) :: (nat_lit 308, o359 P) :: (nat_lit 309, o43 P) :: (nat_lit 311, o364 P) :: (nat_lit 312, o43 P) :: (nat_lit 314, o367 P) :: (nat_lit 315, o368 P) :: (nat_lit 316, o43 P) :: (nat_lit 318, o371 P) :: (nat_lit 319, o43 P) :: (nat_lit 321, o374 P) :: (nat_lit 322, o375 P) :: (nat_lit 323, o43 P) :: (nat_lit 325, o378 P) :: (nat_lit 326, o43 P) :: (nat_lit 328, o381 P) :: (nat_lit 329, o382 P) :: (nat_lit 330, o43 P) :: (nat_lit 332, o385 P) :: (nat_lit 333, o43 P) :: (nat_lit 335, o388 P) :: (nat_lit 336, o389 P) :: (nat_lit 337, o43 P) :: (nat_lit 339, o392 P) :: (nat_lit 340, o43 P) :: (nat_lit 342, o395 P) :: (nat_lit 343, o396 P) :: (nat_lit 351, o66 P) :: (nat_lit 352, o43 P) :: (nat_lit 354, o409 P) :: (nat_lit 355, o43 P) :: (nat_lit 357, o412 P) :: (nat_lit 358, o413 P) :: (nat_lit 359, o43 P) :: (nat_lit 362, o417 P) :: (nat_lit 363, o418 P) :: (nat_lit 364, o43 P) :: (nat_lit 367, o422 P) :: (nat_lit 368, o423 P) :: (nat_lit 369, o43 P) :: (nat_lit 371, o426 P) :: (nat_lit 372, o43 P) :: (nat_lit 374, o429 P) :: (nat_lit 375, o430 P) :: (nat_lit 376, o43 P) :: (nat_lit 377, o432 P) :: (nat_lit 378, o43 P) :: (nat_lit 380, o435 P) :: (nat_lit 381, o43 P) :: (nat_lit 383, o438 P) :: (nat_lit 384, o439 P) :: (nat_lit 385, o43 P) :: (nat_lit 387, o442 P) :: (nat_lit 388, o43 P) :: (nat_lit 390, o445 P) :: (nat_lit 391, o446 P) :: (nat_lit 392, o447 P) :: (nat_lit 393, o448 P) :: (nat_lit 394, o449 P) :: (nat_lit 395, o450 P) :: (nat_lit 396, o451 P) :: (nat_lit 399, o43 P) :: (nat_lit 401, o458 P) :: (nat_lit 402, o43 P) :: (nat_lit 404, o461 P) :: (nat_lit 405, o462 P) :: (nat_lit 413, o43 P) :: (nat_lit 415, o472 P) :: (nat_lit 416, o43 P) :: (nat_lit 418, o475 P) :: (nat_lit 419, o476 P) :: (nat_lit 420, o43 P) :: (nat_lit 422, o479 P) :: (nat_lit 423, o43 P) :: (nat_lit 425, o482 P) :: (nat_lit 426, o483 P) :: (nat_lit 427, o43 P) :: (nat_lit 429, o486 P) :: (nat_lit 430, o43 P) :: (nat_lit 432, o489 P) :: (nat_lit 433, o490 P) :: (nat_lit 434, o43 P) :: (nat_lit 436, o493 P) :: (nat_lit 437, o43 P) :: (nat_lit 439, o496 P) :: (nat_lit 440, o497 P) :: (nat_lit 441, o43 P) :: (nat_lit 443, o500 P) :: (nat_lit 444, o43 P) :: (nat_lit 446, o503 P) :: (nat_lit 447, o504 P) :: (nat_lit 448, o505 P) :: (nat_lit 449, o506 P) :: (nat_lit 450, o507 P) :: (nat_lit 451, o508 P) :: (nat_lit 452, o509 P) :: (nat_lit 455, o43 P) :: (nat_lit 457, o516 P) :: (nat_lit 458, o43 P) :: (nat_lit 460, o519 P) :: (nat_lit 461, o520 P) :: (nat_lit 469, o43 P) :: (nat_lit 471, o530 P) :: (nat_lit 472, o43 P) :: (nat_lit 474, o533 P) :: (nat_lit 475, o534 P) :: (nat_lit 476, o43 P) :: (nat_lit 478, o537 P) :: (nat_lit 479, o43 P) :: (nat_lit 481, o540 P) :: (nat_lit 482, o541 P) :: (nat_lit 483, o43 P) :: (nat_lit 485, o544 P) :: (nat_lit 486, o43 P) :: (nat_lit 488, o547 P) :: (nat_lit 489, o548 P) :: (nat_lit 490, o43 P) :: (nat_lit 492, o551 P) :: (nat_lit 493, o43 P) :: (nat_lit 495, o554 P) :: (nat_lit 496, o555 P) :: (nat_lit 497, o556 P) :: (nat_lit 498, o557 P) :: (nat_lit 499, o558 P) :: (nat_lit 500, o559 P) :: (nat_lit 501, o560 P) :: (nat_lit 504, o563 P) :: (nat_lit 505, o566 P) :: (nat_lit 506, o43 P) :: (nat_lit 509, o570 P) :: (nat_lit 510, o571 P) :: (nat_lit 511, o43 P) :: (nat_lit 513, o574 P) :: (nat_lit 514, o43 P) :: (nat_lit 516, o577 P) :: (nat_lit 517, o578 P) :: (nat_lit 518, o43 P) :: (nat_lit 520, o581 P) :: (nat_lit 521, o43 P) :: (nat_lit 523, o584 P) :: (nat_lit 524, o585 P) :: (nat_lit 525, o43 P) :: (nat_lit 527, o588 P) :: (nat_lit 528, o43 P) :: (nat_lit 530, o591 P) :: (nat_lit 531, o592 P) :: (nat_lit 532, o43 P) :: (nat_lit 535, o596 P) :: (nat_lit 536, o597 P) :: (nat_lit 537, o43 P) :: (nat_lit 540, o601 P) :: (nat_lit 541, o602 P) :: (nat_lit 542, o43 P) :: (nat_lit 545, o606 P) :: (nat_lit 546, o607 P) :: (nat_lit 547, o43 P) :: (nat_lit 549, o610 P) :: (nat_lit 550, o43 P) :: (nat_lit 552, o613 P) :: (nat_lit 553, o614 P) :: []
noncomputable def ads : List Addr := [2, 3, 15, 17, 18, 20, 21, 22, 29, 30, 32, 33, 35, 36, 37, 38, 39, 40, 43, 50, 51, 52, 55, 57, 58, 60, 61, 62, 63, 64, 65, 66, 67, 68, 69, 70, 71, 72, 73, 74, 75, 76, 77, 78, 79, 80, 81, 82, 83, 84, 85, 86, 87, 88, 89, 90, 91, 92, 93, 94, 95, 96, 97, 98, 99, 100, 101, 102, 103, 104, 112, 113, 115, 116, 118, 119, 120, 121, 122, 123, 124, 127, 129, 130, 132, 133, 134, 136, 137, 139, 140, 148, 150, 151, 153, 154, 155, 156, 157, 158, 159, 162, 164, 165, 167, 168, 176, 178, 179, 181, 182, 183, 185, 186, 188, 189, 190, 192, 193, 195, 196, 197, 199, 200, 202, 203, 204, 206, 207, 209, 210, 211, 212, 213, 214, 215, 218, 220, 221, 223, 224, 225, 227, 228, 230, 231, 232, 234, 235, 237, 238, 239, 241, 242, 244, 245, 246, 248, 249, 251, 252, 253, 255, 256, 258, 259, 260, 262, 263, 265, 266, 267, 269, 270, 272, 273, 274, 276, 277, 279, 280, 281, 283, 284, 286, 287, 288, 290, 291, 293, 294, 295, 297, 298, 300, 301, 302, 304, 305, 307, 308, 309, 311, 312, 314, 315, 316, 318, 319, 321, 322, 323, 325, 326, 328, 329, 330, 332, 333, 335, 336, 337, 339, 340, 342, 343, 351, 352, 354, 355, 357, 358, 359, 362, 363, 364, 367, 368, 369, 371, 372, 374, 375, 376, 377, 378, 380, 381, 383, 384, 385, 387, 388, 390, 391, 392, 393, 394, 395, 396, 399, 401, 402, 404, 405, 413, 415, 416, 418, 419, 420, 422, 423, 425, 426, 427, 429, 430, 432, 433, 434, 436, 437, 439, 440, 441, 443, 444, 446, 447, 448, 449, 450, 451, 452, 455, 457, 458, 460, 461, 469, 471, 472, 474, 475, 476, 478, 479, 481, 482, 483, 485, 486, 488, 489, 490, 492, 493, 495, 496, 497, 498, 499, 500, 501, 504, 505, 506, 509, 510, 511, 513, 514, 516, 517, 518, 520, 521, 523, 524, 525, 527, 528, 530, 531, 532, 535, 536, 537, 540, 541, 542, 545, 546, 547, 549, 550, 552, 553]
theorem ads_ok : ∀ P, ads = (frag P).map (·.1) := fun P => by kernel_rfl
noncomputable def hook : Hook := kHook frag ads ads_ok
noncomputable def env_41 : Env := { scope := prg.main.scope, locals := mainNs, globals := mainNs, cells := [], code := .ref 13, frame := some 14 }
noncomputable def sts_49 : List Stmt := ((behindTheImports prg).drop 0).take 4
noncomputable def sts_80 : List Stmt := ((behindTheImports prg).drop 4).take 12
noncomputable def sts_111 : List Stmt := ((behindTheImports prg).drop 16).take 13
noncomputable def sts_148 : List Stmt := ((behindTheImports prg).drop 29).take 3
noncomputable def sts_186 : List Stmt := ((behindTheImports prg).drop 32).take 2
noncomputable def sts_216 : List Stmt := ((behindTheImports prg).drop 34).take 2
noncomputable def sts_274 : List Stmt := ((behindTheImports prg).drop 36).take 12
noncomputable def sts_360 : List Stmt := ((behindTheImports prg).drop 48).take 5
noncomputable def sts_397 : List Stmt := ((behindTheImports prg).drop 53).take 2
noncomputable def sts_454 : List Stmt := ((behindTheImports prg).drop 55).take 3
noncomputable def sts_512 : List Stmt := ((behindTheImports prg).drop 58).take 4
noncomputable def sts_564 : List Stmt := ((behindTheImports prg).drop 62).take 9
noncomputable def view : Program := { prg with main := { prg.main with body := [0, 2, 3, 4, 5, 7, 8, 9, 10, 11, 12, 13, 14, 15, 16, 17, 18, 19, 20, 21, 22, 23, 24, 25, 26, 27, 28, 29, 30, 31, 32, 33, 34, 35, 36, 37, 38, 39, 40, 41, 42, 43, 44, 45, 46, 47, 48, 49, 50, 51, 52, 53, 55, 56, 58, 59, 61, 62, 63, 64, 65, 66, 67, 68, 69, 70].filterMap fun i => prg.main.body[i]? } }
theorem p40 : (chainsOk view && opensWell PySem.Challenge.rw_on0381_01.row.prog && (frees PySem.Challenge.rw_on0381_01.row.toRowW && PySem.Challenge.rw_on0381_01.row.within.isEmpty)) = Bool.true := by decide +kernel
theorem p41 : PySem.Challenge.rw_on0381_01.row.prog.tablesWhole = Bool.true := by decide +kernel
theorem p42 : opening prg = plainProg prg.main.scope.names := by kernel_rfl
theorem p43 : ∀ (s : Shared), fenceModules? prg s = Option.some s := fun (s : Shared) => Eq.refl (Option.some s)
theorem p47 : ∀ (w : World), (fun (os : OsState) => topGo treeTable prg w 11 (Option.some (Value.ref 6)) 12 (Shared.mk (boot_heap w.params) (Array.mk []) boot_drawn boot_toks os) (topStub prg)) = fun (os : OsState) => Option.some (Shared.mk (heap_46 w.params) (Array.mk []) (Drawn.mk 0 0 0 0) 187 os, Thread.mk (denote treeTable (Code.body (behindTheImports prg) env_41)) (Code.body (behindTheImports prg) env_41) (Pos.mk 0 0 0 0) [topFrame (Pos.mk 0 0 0 0)]) := by intro w; (try rewrite [PySem.W.Fast.te15667345088766844465]); (try rewrite [PySem.W.Fast.te14364793385576792824]); (try rewrite [PySem.W.Fast.te2368527892694137696]); (try rewrite [PySem.W.Fast.te11892475500146522536]); kernel_rfl
theorem p49 : ∀ (w : World), (fun (os : OsState) => segRun treeTable prg w 11 (Option.some (Value.ref 6)) 1 1 (Shared.mk (heap_46 w.params) (Array.mk []) (Drawn.mk 0 0 0 0) 187 os) (blockOf (behindTheImports prg) env_41 (Code.body (behindTheImports prg) env_41) (Pos.mk 0 0 0 0) [topFrame (Pos.mk 0 0 0 0)])) = fun (os : OsState) => Option.some (Flow.next, (SharedT.mk (tree_47 w.params) 15 (Life.mk [] [] [] 0 [] [] Bool.false #[] [] 0 Bool.false Bool.false Bool.false 0 [2000, 10, 10] Bool.false 0 Bool.true [] [] 0 Bool.false) (Array.mk []) (Drawn.mk 0 0 0 0) 187 os).abs, Code.body (behindTheImports prg) env_41, Pos.mk 0 0 0 0) := by intro w; (try rewrite [PySem.W.Fast.te14374325043358763698]); (try rewrite [PySem.W.Fast.te14364793385576792824]); (try rewrite [PySem.W.Fast.te2368527892694137696]); kernel_rfl
theorem p80 : ∀ (w : World), (fun (os : OsState) => segRunT treeTable prg w 11 (Option.some (Value.ref 6)) 1 277 (SharedT.mk (tree_47 w.params) 15 (Life.mk [] [] [] 0 [] [] Bool.false #[] [] 0 Bool.false Bool.false Bool.false 0 [2000, 10, 10] Bool.false 0 Bool.true [] [] 0 Bool.false) (Array.mk []) (Drawn.mk 0 0 0 0) 187 os) (piecesOf sts_49 env_41 (Code.body (behindTheImports prg) env_41) (Pos.mk 0 0 0 0) [topFrame (Pos.mk 0 0 0 0)])) = fun (os : OsState) => Option.some (Flow.next, SharedT.mk (tree_79 w.params) 43 (Life.mk [] [] [] 0 [] [] Bool.false #[] [] 0 Bool.false Bool.false Bool.false 0 [2000, 10, 10] Bool.false 0 Bool.true [] [] 0 Bool.false) (Array.mk []) (Drawn.mk 0 0 0 0) 227 os, Code.body (behindTheImports prg) env_41, Pos.mk 6 0 9 24) := by intro w; (try rewrite [PySem.W.Fast.te10110043849684766642]); (try rewrite [PySem.W.Fast.te14364793385576792824]); (try rewrite [PySem.W.Fast.te2368527892694137696]); kernel_rfl
theorem p111 : ∀ (w : World), (fun (os : OsState) => segRunT treeTable prg w 11 (Option.some (Value.ref 6)) 1 394 (SharedT.mk (tree_79 w.params) 43 (Life.mk [] [] [] 0 [] [] Bool.false #[] [] 0 Bool.false Bool.false Bool.false 0 [2000, 10, 10] Bool.false 0 Bool.true [] [] 0 Bool.false) (Array.mk []) (Drawn.mk 0 0 0 0) 227 os) (piecesOf sts_80 env_41 (Code.body (behindTheImports prg) env_41) (Pos.mk 6 0 9 24) [topFrame (Pos.mk 0 0 0 0)])) = fun (os : OsState) => Option.some (Flow.next, SharedT.mk (tree_110 w.params) 71 (Life.mk [] [] [] 0 [] [] Bool.false #[] [] 0 Bool.false Bool.false Bool.false 0 [2000, 10, 10] Bool.false 0 Bool.true [] [] 0 Bool.false) (Array.mk []) (Drawn.mk 0 0 0 0) 313 os, Code.body (behindTheImports prg) env_41, Pos.mk 31 0 31 16) := by intro w; (try rewrite [PySem.W.Fast.te10110043849684766642]); (try rewrite [PySem.W.Fast.te14364793385576792824]); (try rewrite [PySem.W.Fast.te2368527892694137696]); kernel_rfl
theorem p146 : ∀ (w : World), (fun (os : OsState) => segRunT treeTable prg (w.withFollow "special-get-raises" Bool.false) 11 (Option.some (Value.ref 6)) 1 331 (SharedT.mk (tree_110 (w.withFollow "special-get-raises" Bool.false).params) 71 (Life.mk [] [] [] 0 [] [] Bool.false #[] [] 0 Bool.false Bool.false Bool.false 0 [2000, 10, 10] Bool.false 0 Bool.true [] [] 0 Bool.false) (Array.mk []) (Drawn.mk 0 0 0 0) 313 os) (piecesOf sts_111 env_41 (Code.body (behindTheImports prg) env_41) (Pos.mk 31 0 31 16) [topFrame (Pos.mk 0 0 0 0)])) = fun (os : OsState) => Option.some (Flow.next, SharedT.mk (tree_145 (w.withFollow "special-get-raises" Bool.false).params) 105 (Life.mk [] [] [] 0 [] [] Bool.false #[] [] 0 Bool.false Bool.false Bool.false 0 [2000, 10, 10] Bool.false 0 Bool.true [] [] 0 Bool.false) (Array.mk []) (Drawn.mk 0 0 0 0) 424 os, Code.body (behindTheImports prg) env_41, Pos.mk 44 0 44 13) := by intro w; (try rewrite [PySem.W.Fast.te10110043849684766642]); (try rewrite [PySem.W.Fast.te14364793385576792824]); (try rewrite [PySem.W.Fast.te2368527892694137696]); kernel_rfl
theorem p148 : ∀ (w : World), (fun (os : OsState) => segRunT treeTable prg (w.withFollow "special-get-raises" Bool.true) 11 (Option.some (Value.ref 6)) 1 331 (SharedT.mk (tree_110 (w.withFollow "special-get-raises" Bool.true).params) 71 (Life.mk [] [] [] 0 [] [] Bool.false #[] [] 0 Bool.false Bool.false Bool.false 0 [2000, 10, 10] Bool.false 0 Bool.true [] [] 0 Bool.false) (Array.mk []) (Drawn.mk 0 0 0 0) 313 os) (piecesOf sts_111 env_41 (Code.body (behindTheImports prg) env_41) (Pos.mk 31 0 31 16) [topFrame (Pos.mk 0 0 0 0)])) = fun (os : OsState) => Option.some (Flow.next, SharedT.mk (tree_145 (w.withFollow "special-get-raises" Bool.true).params) 105 (Life.mk [] [] [] 0 [] [] Bool.false #[] [] 0 Bool.false Bool.false Bool.false 0 [2000, 10, 10] Bool.false 0 Bool.true [] [] 0 Bool.false) (Array.mk []) (Drawn.mk 0 0 0 0) 424 os, Code.body (behindTheImports prg) env_41, Pos.mk 44 0 44 13) := by intro w; (try rewrite [PySem.W.Fast.te10110043849684766642]); (try rewrite [PySem.W.Fast.te14364793385576792824]); (try rewrite [PySem.W.Fast.te2368527892694137696]); kernel_rfl
theorem p186 : ∀ (w : World), (fun (os : OsState) => segRunT treeTable prg w 11 (Option.some (Value.ref 6)) 1 294 (SharedT.mk (tree_145 w.params) 105 (Life.mk [] [] [] 0 [] [] Bool.false #[] [] 0 Bool.false Bool.false Bool.false 0 [2000, 10, 10] Bool.false 0 Bool.true [] [] 0 Bool.false) (Array.mk []) (Drawn.mk 0 0 0 0) 424 os) (piecesOf sts_148 env_41 (Code.body (behindTheImports prg) env_41) (Pos.mk 44 0 44 13) [topFrame (Pos.mk 0 0 0 0)])) = fun (os : OsState) => Option.some (Flow.next, SharedT.mk (tree_185 w.params) 141 (Life.mk [] [] [] 0 [] [] Bool.false #[] [] 0 Bool.false Bool.false Bool.false 0 [2000, 10, 10] Bool.false 0 Bool.true [] [] 0 Bool.false) (Array.mk []) (Drawn.mk 0 0 0 0) 479 os, Code.body (behindTheImports prg) env_41, Pos.mk 62 0 72 15) := by intro w; (try rewrite [PySem.W.Fast.te10110043849684766642]); (try rewrite [PySem.W.Fast.te14364793385576792824]); (try rewrite [PySem.W.Fast.te2368527892694137696]); kernel_rfl
theorem p216 : ∀ (w : World), (fun (os : OsState) => segRunT treeTable prg w 11 (Option.some (Value.ref 6)) 1 263 (SharedT.mk (tree_185 w.params) 141 (Life.mk [] [] [] 0 [] [] Bool.false #[] [] 0 Bool.false Bool.false Bool.false 0 [2000, 10, 10] Bool.false 0 Bool.true [] [] 0 Bool.false) (Array.mk []) (Drawn.mk 0 0 0 0) 479 os) (piecesOf sts_186 env_41 (Code.body (behindTheImports prg) env_41) (Pos.mk 62 0 72 15) [topFrame (Pos.mk 0 0 0 0)])) = fun (os : OsState) => Option.some (Flow.next, SharedT.mk (tree_215 w.params) 169 (Life.mk [] [] [] 0 [] [] Bool.false #[] [] 0 Bool.false Bool.false Bool.false 0 [2000, 10, 10] Bool.false 0 Bool.true [] [] 0 Bool.false) (Array.mk []) (Drawn.mk 0 0 0 0) 526 os, Code.body (behindTheImports prg) env_41, Pos.mk 80 0 90 16) := by intro w; (try rewrite [PySem.W.Fast.te10110043849684766642]); (try rewrite [PySem.W.Fast.te14364793385576792824]); (try rewrite [PySem.W.Fast.te2368527892694137696]); kernel_rfl
theorem p274 : ∀ (w : World), (fun (os : OsState) => segRunT treeTable prg w 11 (Option.some (Value.ref 6)) 1 396 (SharedT.mk (tree_215 w.params) 169 (Life.mk [] [] [] 0 [] [] Bool.false #[] [] 0 Bool.false Bool.false Bool.false 0 [2000, 10, 10] Bool.false 0 Bool.true [] [] 0 Bool.false) (Array.mk []) (Drawn.mk 0 0 0 0) 526 os) (piecesOf sts_216 env_41 (Code.body (behindTheImports prg) env_41) (Pos.mk 80 0 90 16) [topFrame (Pos.mk 0 0 0 0)])) = fun (os : OsState) => Option.some (Flow.next, SharedT.mk (tree_273 w.params) 225 (Life.mk [] [] [] 0 [] [] Bool.false #[] [] 0 Bool.false Bool.false Bool.false 0 [2000, 10, 10] Bool.false 0 Bool.true [] [] 0 Bool.false) (Array.mk []) (Drawn.mk 0 0 0 0) 610 os, Code.body (behindTheImports prg) env_41, Pos.mk 120 0 128 52) := by intro w; (try rewrite [PySem.W.Fast.te10110043849684766642]); (try rewrite [PySem.W.Fast.te14364793385576792824]); (try rewrite [PySem.W.Fast.te2368527892694137696]); kernel_rfl
theorem p360 : ∀ (w : World), (fun (os : OsState) => segRunT treeTable prg w 11 (Option.some (Value.ref 6)) 1 380 (SharedT.mk (tree_273 w.params) 225 (Life.mk [] [] [] 0 [] [] Bool.false #[] [] 0 Bool.false Bool.false Bool.false 0 [2000, 10, 10] Bool.false 0 Bool.true [] [] 0 Bool.false) (Array.mk []) (Drawn.mk 0 0 0 0) 610 os) (piecesOf sts_274 env_41 (Code.body (behindTheImports prg) env_41) (Pos.mk 120 0 128 52) [topFrame (Pos.mk 0 0 0 0)])) = fun (os : OsState) => Option.some (Flow.next, SharedT.mk (tree_359 w.params) 309 (Life.mk [] [] [] 0 [] [] Bool.false #[] [] 0 Bool.false Bool.false Bool.false 0 [2000, 10, 10] Bool.false 0 Bool.true [] [] 0 Bool.false) (Array.mk []) (Drawn.mk 0 0 0 0) 725 os, Code.body (behindTheImports prg) env_41, Pos.mk 210 0 213 85) := by intro w; (try rewrite [PySem.W.Fast.te10110043849684766642]); (try rewrite [PySem.W.Fast.te14364793385576792824]); (try rewrite [PySem.W.Fast.te2368527892694137696]); kernel_rfl
theorem p397 : ∀ (w : World), (fun (os : OsState) => segRunT treeTable prg w 11 (Option.some (Value.ref 6)) 1 167 (SharedT.mk (tree_359 w.params) 309 (Life.mk [] [] [] 0 [] [] Bool.false #[] [] 0 Bool.false Bool.false Bool.false 0 [2000, 10, 10] Bool.false 0 Bool.true [] [] 0 Bool.false) (Array.mk []) (Drawn.mk 0 0 0 0) 725 os) (piecesOf sts_360 env_41 (Code.body (behindTheImports prg) env_41) (Pos.mk 210 0 213 85) [topFrame (Pos.mk 0 0 0 0)])) = fun (os : OsState) => Option.some (Flow.next, SharedT.mk (tree_396 w.params) 344 (Life.mk [] [] [] 0 [] [] Bool.false #[] [] 0 Bool.false Bool.false Bool.false 0 [2000, 10, 10] Bool.false 0 Bool.true [] [] 0 Bool.false) (Array.mk []) (Drawn.mk 0 0 0 0) 781 os, Code.body (behindTheImports prg) env_41, Pos.mk 247 0 254 16) := by intro w; (try rewrite [PySem.W.Fast.te10110043849684766642]); (try rewrite [PySem.W.Fast.te14364793385576792824]); (try rewrite [PySem.W.Fast.te2368527892694137696]); kernel_rfl
theorem p454 : ∀ (w : World), (fun (os : OsState) => segRunT treeTable prg w 11 (Option.some (Value.ref 6)) 1 396 (SharedT.mk (tree_396 w.params) 344 (Life.mk [] [] [] 0 [] [] Bool.false #[] [] 0 Bool.false Bool.false Bool.false 0 [2000, 10, 10] Bool.false 0 Bool.true [] [] 0 Bool.false) (Array.mk []) (Drawn.mk 0 0 0 0) 781 os) (piecesOf sts_397 env_41 (Code.body (behindTheImports prg) env_41) (Pos.mk 247 0 254 16) [topFrame (Pos.mk 0 0 0 0)])) = fun (os : OsState) => Option.some (Flow.next, SharedT.mk (tree_453 w.params) 399 (Life.mk [] [] [] 0 [] [] Bool.false #[] [] 0 Bool.false Bool.false Bool.false 0 [2000, 10, 10] Bool.false 0 Bool.true [] [] 0 Bool.false) (Array.mk []) (Drawn.mk 0 0 0 0) 856 os, Code.body (behindTheImports prg) env_41, Pos.mk 275 0 275 8) := by intro w; (try rewrite [PySem.W.Fast.te10110043849684766642]); (try rewrite [PySem.W.Fast.te14364793385576792824]); (try rewrite [PySem.W.Fast.te2368527892694137696]); kernel_rfl
theorem p512 : ∀ (w : World), (fun (os : OsState) => segRunT treeTable prg w 11 (Option.some (Value.ref 6)) 1 398 (SharedT.mk (tree_453 w.params) 399 (Life.mk [] [] [] 0 [] [] Bool.false #[] [] 0 Bool.false Bool.false Bool.false 0 [2000, 10, 10] Bool.false 0 Bool.true [] [] 0 Bool.false) (Array.mk []) (Drawn.mk 0 0 0 0) 856 os) (piecesOf sts_454 env_41 (Code.body (behindTheImports prg) env_41) (Pos.mk 275 0 275 8) [topFrame (Pos.mk 0 0 0 0)])) = fun (os : OsState) => Option.some (Flow.next, SharedT.mk (tree_511 w.params) 455 (Life.mk [] [] [] 0 [] [] Bool.false #[] [] 0 Bool.false Bool.false Bool.false 0 [2000, 10, 10] Bool.false 0 Bool.true [] [] 0 Bool.false) (Array.mk []) (Drawn.mk 0 0 0 0) 935 os, Code.body (behindTheImports prg) env_41, Pos.mk 308 0 308 8) := by intro w; (try rewrite [PySem.W.Fast.te10110043849684766642]); (try rewrite [PySem.W.Fast.te14364793385576792824]); (try rewrite [PySem.W.Fast.te2368527892694137696]); kernel_rfl
theorem p564 : ∀ (w : World), (fun (os : OsState) => segRunT treeTable prg w 11 (Option.some (Value.ref 6)) 1 381 (SharedT.mk (tree_511 w.params) 455 (Life.mk [] [] [] 0 [] [] Bool.false #[] [] 0 Bool.false Bool.false Bool.false 0 [2000, 10, 10] Bool.false 0 Bool.true [] [] 0 Bool.false) (Array.mk []) (Drawn.mk 0 0 0 0) 935 os) (piecesOf sts_512 env_41 (Code.body (behindTheImports prg) env_41) (Pos.mk 308 0 308 8) [topFrame (Pos.mk 0 0 0 0)])) = fun (os : OsState) => Option.some (Flow.next, SharedT.mk (tree_563 w.params) 505 (Life.mk [] [] [] 0 [] [] Bool.false #[] [] 0 Bool.false Bool.false Bool.false 0 [2000, 10, 10] Bool.false 0 Bool.true [] [] 0 Bool.false) (Array.mk []) (Drawn.mk 0 0 0 0) 1012 os, Code.body (behindTheImports prg) env_41, Pos.mk 342 0 342 14) := by intro w; (try rewrite [PySem.W.Fast.te10110043849684766642]); (try rewrite [PySem.W.Fast.te14364793385576792824]); (try rewrite [PySem.W.Fast.te2368527892694137696]); kernel_rfl
theorem p615 : ∀ (w : World), (fun (os : OsState) => segRunT treeTable prg w 11 (Option.some (Value.ref 6)) 1 252 (SharedT.mk (tree_563 w.params) 505 (Life.mk [] [] [] 0 [] [] Bool.false #[] [] 0 Bool.false Bool.false Bool.false 0 [2000, 10, 10] Bool.false 0 Bool.true [] [] 0 Bool.false) (Array.mk []) (Drawn.mk 0 0 0 0) 1012 os) (piecesOf sts_564 env_41 (Code.body (behindTheImports prg) env_41) (Pos.mk 342 0 342 14) [topFrame (Pos.mk 0 0 0 0)])) = fun (os : OsState) => Option.some (Flow.next, SharedT.mk (tree_614 w.params) 554 (Life.mk [] [] [] 0 [] [] Bool.false #[] [] 0 Bool.false Bool.false Bool.false 0 [2000, 10, 10] Bool.false 0 Bool.true [] [] 0 Bool.false) (Array.mk []) (Drawn.mk 0 0 0 0) 1086 os, Code.body (behindTheImports prg) env_41, Pos.mk 403 0 405 94) := by intro w; (try rewrite [PySem.W.Fast.te10110043849684766642]); (try rewrite [PySem.W.Fast.te14364793385576792824]); (try rewrite [PySem.W.Fast.te2368527892694137696]); kernel_rfl
theorem p617 : ∀ (w : World), (fun (os : OsState) => topRun treeTable prg w 11 (Option.some (Value.ref 6)) 2 (SharedT.mk (tree_614 w.params) 554 (Life.mk [] [] [] 0 [] [] Bool.false #[] [] 0 Bool.false Bool.false Bool.false 0 [2000, 10, 10] Bool.false 0 Bool.true [] [] 0 Bool.false) (Array.mk []) (Drawn.mk 0 0 0 0) 1086 os).abs (Thread.mk (doneF Flow.next) (Code.body (behindTheImports prg) env_41) (Pos.mk 403 0 405 94) [topFrame (Pos.mk 0 0 0 0)])) = fun (os : OsState) => Option.some (Shared.mk (heap_615 w.params) (Array.mk []) (Drawn.mk 0 0 0 0) 1086 os) := by intro w; (try rewrite [PySem.W.Fast.te14082659384304107361]); (try rewrite [PySem.W.Fast.te14364793385576792824]); (try rewrite [PySem.W.Fast.te2368527892694137696]); kernel_rfl
theorem p146r : ∀ (w : World), (fun (os : OsState) => segRunT treeTable prg w 11 (Option.some (Value.ref 6)) 1 331 (SharedT.mk (tree_110 w.params) 71 (Life.mk [] [] [] 0 [] [] Bool.false #[] [] 0 Bool.false Bool.false Bool.false 0 [2000, 10, 10] Bool.false 0 Bool.true [] [] 0 Bool.false) (Array.mk []) (Drawn.mk 0 0 0 0) 313 os) (piecesOf sts_111 env_41 (Code.body (behindTheImports prg) env_41) (Pos.mk 31 0 31 16) [topFrame (Pos.mk 0 0 0 0)])) = fun (os : OsState) => Option.some (Flow.next, SharedT.mk (tree_145 w.params) 105 (Life.mk [] [] [] 0 [] [] Bool.false #[] [] 0 Bool.false Bool.false Bool.false 0 [2000, 10, 10] Bool.false 0 Bool.true [] [] 0 Bool.false) (Array.mk []) (Drawn.mk 0 0 0 0) 424 os, Code.body (behindTheImports prg) env_41, Pos.mk 44 0 44 13) := byRow2 "special-get-raises" (P := fun (w : World) => (fun (os : OsState) => segRunT treeTable prg w 11 (Option.some (Value.ref 6)) 1 331 (SharedT.mk (tree_110 w.params) 71 (Life.mk [] [] [] 0 [] [] Bool.false #[] [] 0 Bool.false Bool.false Bool.false 0 [2000, 10, 10] Bool.false 0 Bool.true [] [] 0 Bool.false) (Array.mk []) (Drawn.mk 0 0 0 0) 313 os) (piecesOf sts_111 env_41 (Code.body (behindTheImports prg) env_41) (Pos.mk 31 0 31 16) [topFrame (Pos.mk 0 0 0 0)])) = fun (os : OsState) => Option.some (Flow.next, SharedT.mk (tree_145 w.params) 105 (Life.mk [] [] [] 0 [] [] Bool.false #[] [] 0 Bool.false Bool.false Bool.false 0 [2000, 10, 10] Bool.false 0 Bool.true [] [] 0 Bool.false) (Array.mk []) (Drawn.mk 0 0 0 0) 424 os, Code.body (behindTheImports prg) env_41, Pos.mk 44 0 44 13)) p146 p148
theorem body_eq : PySem.W.behindTheImports prg = sts_49 ++ (sts_80 ++ (sts_111 ++ (sts_148 ++ (sts_186 ++ (sts_216 ++ (sts_274 ++ (sts_360 ++ (sts_397 ++ (sts_454 ++ (sts_512 ++ (sts_564 ++ ([])))))))))))) := by kernel_rfl
theorem p618 : ∀ (w : World) (os : OsState), topRun treeTable prg w 11 (Option.some (Value.ref 6)) (Nat.add 12 (Nat.add 1 (Nat.add 277 (Nat.add 394 (Nat.add 331 (Nat.add 294 (Nat.add 263 (Nat.add 396 (Nat.add 380 (Nat.add 167 (Nat.add 396 (Nat.add 398 (Nat.add 381 (Nat.add 252 2)))))))))))))) (Shared.mk (boot_heap w.params) (Array.mk []) boot_drawn boot_toks os) (topStub prg) = Option.some (Shared.mk (heap_615 w.params) (Array.mk []) (Drawn.mk 0 0 0 0) 1086 os) := by
  intro w os
  have r12 := piece_nil (env := env_41) (congrFun (p617 w) os)
  have r11 := piece_app (l := sts_564) (rest := []) (segRun_of (congrFun (p615 w) os)) r12
  have r10 := piece_app (l := sts_512) (rest := sts_564 ++ ([])) (segRun_of (congrFun (p564 w) os)) r11
  have r9 := piece_app (l := sts_454) (rest := sts_512 ++ (sts_564 ++ ([]))) (segRun_of (congrFun (p512 w) os)) r10
  have r8 := piece_app (l := sts_397) (rest := sts_454 ++ (sts_512 ++ (sts_564 ++ ([])))) (segRun_of (congrFun (p454 w) os)) r9
  have r7 := piece_app (l := sts_360) (rest := sts_397 ++ (sts_454 ++ (sts_512 ++ (sts_564 ++ ([]))))) (segRun_of (congrFun (p397 w) os)) r8
  have r6 := piece_app (l := sts_274) (rest := sts_360 ++ (sts_397 ++ (sts_454 ++ (sts_512 ++ (sts_564 ++ ([])))))) (segRun_of (congrFun (p360 w) os)) r7
  have r5 := piece_app (l := sts_216) (rest := sts_274 ++ (sts_360 ++ (sts_397 ++ (sts_454 ++ (sts_512 ++ (sts_564 ++ ([]))))))) (segRun_of (congrFun (p274 w) os)) r6
  have r4 := piece_app (l := sts_186) (rest := sts_216 ++ (sts_274 ++ (sts_360 ++ (sts_397 ++ (sts_454 ++ (sts_512 ++ (sts_564 ++ ([])))))))) (segRun_of (congrFun (p216 w) os)) r5
  have r3 := piece_app (l := sts_148) (rest := sts_186 ++ (sts_216 ++ (sts_274 ++ (sts_360 ++ (sts_397 ++ (sts_454 ++ (sts_512 ++ (sts_564 ++ ([]))))))))) (segRun_of (congrFun (p186 w) os)) r4
  have r2 := piece_app (l := sts_111) (rest := sts_148 ++ (sts_186 ++ (sts_216 ++ (sts_274 ++ (sts_360 ++ (sts_397 ++ (sts_454 ++ (sts_512 ++ (sts_564 ++ ([])))))))))) (segRun_of (congrFun (p146r w) os)) r3
  have r1 := piece_app (l := sts_80) (rest := sts_111 ++ (sts_148 ++ (sts_186 ++ (sts_216 ++ (sts_274 ++ (sts_360 ++ (sts_397 ++ (sts_454 ++ (sts_512 ++ (sts_564 ++ ([]))))))))))) (segRun_of (congrFun (p111 w) os)) r2
  have r0 := piece_app (l := sts_49) (rest := sts_80 ++ (sts_111 ++ (sts_148 ++ (sts_186 ++ (sts_216 ++ (sts_274 ++ (sts_360 ++ (sts_397 ++ (sts_454 ++ (sts_512 ++ (sts_564 ++ ([])))))))))))) (segRun_of (congrFun (p80 w) os)) r1
  rw [← body_eq] at r0
  exact go_top (congrFun (p47 w) os) (piece_block (congrFun (p49 w) os) r0)
theorem p620 : ∀ (w : World), ((boot_heap w.params).isNs mainGlobals && (Array.mk (α := PySem.GenState) []).size == 0, (boot_heap w.params).objs.size, (boot_heap w.params).nsMap mainGlobals (Str.ofString "__annotations__")) = (Bool.true, 11, Option.some (Value.ref 6)) := by intro w; (try rewrite [PySem.W.Fast.te8920871248978507458]); kernel_rfl
theorem p622 : ∀ (w : World), (fun (os : OsState) => staticsOk (importedModules prg.main.body) (boot_heap w.params) (heap_615 w.params) && namesBound prg (heap_615 w.params) && gensDone (Shared.mk (heap_615 w.params) (Array.mk []) (Drawn.mk 0 0 0 0) 1086 os) && laidKept (boot_heap w.params) (heap_615 w.params)) = fun (os : OsState) => Bool.true := by intro w; (try rewrite [PySem.W.Fast.te5923862056798008813]); (try rewrite [PySem.W.Fast.te2368527892694137696]); kernel_rfl
theorem p624 : ∀ (w : World), (fun (os : OsState) => PyProof.Rows.seen (List.map (fun (x : DefRec) => x.name) (PyProof.Rows.recsOf view)) (PyProof.Rows.ownsOf view) [] (Shared.mk (Shared.mk (heap_615 w.params) (Array.mk []) (Drawn.mk 0 0 0 0) 1086 os).heap #[] (Shared.mk (heap_615 w.params) (Array.mk []) (Drawn.mk 0 0 0 0) 1086 os).drawn (Shared.mk (heap_615 w.params) (Array.mk []) (Drawn.mk 0 0 0 0) 1086 os).toks (Shared.mk (heap_615 w.params) (Array.mk []) (Drawn.mk 0 0 0 0) 1086 os).os)) = fun (os : OsState) => PyProof.Rows.expectedOf view := by intro w; (try rewrite [PySem.W.Fast.te5160383126252970620]); (try rewrite [PySem.W.R.mapR_eq]); (try rewrite [PySem.W.Fast.te3399658132070893891]); (try rewrite [PySem.W.Fast.te5991557255702980513]); kernel_rfl
theorem p626 : ∀ (w : World), (fun (os : OsState) => (Shared.mk (heap_615 w.params) (Array.mk []) (Drawn.mk 0 0 0 0) 1086 os).heap.bltView) = fun (os : OsState) => bltViewBooted := by intro w; kernel_rfl
theorem p628 : ∀ (w : World), (fun (os : OsState) => (Shared.mk (heap_615 w.params) (Array.mk []) (Drawn.mk 0 0 0 0) 1086 os).heap.keysOk (looseW view [Str.ofString "UniError", Str.ofString "LINE_JAMO", Str.ofString "LineBreaks"]) (List.map (fun (x : DefRec) => x.name) (PyProof.Rows.recsOf view)) (List.map (fun (x : Str × PyData) => x.fst) (PyProof.Rows.litsOf view)) (List.map (fun (x : ClsRec) => x.name) (PyProof.Rows.clssOf view (looseW view [Str.ofString "UniError", Str.ofString "LINE_JAMO", Str.ofString "LineBreaks"]))) && (Shared.mk (heap_615 w.params) (Array.mk []) (Drawn.mk 0 0 0 0) 1086 os).heap.accountedOkI (importedModules prg.main.body) && (Shared.mk (heap_615 w.params) (Array.mk []) (Drawn.mk 0 0 0 0) 1086 os).heap.isNs mainGlobals && (Shared.mk (heap_615 w.params) (Array.mk []) (Drawn.mk 0 0 0 0) 1086 os).heap.isNs builtinsNs && PyProof.Rows.tablesOk view (Shared.mk (heap_615 w.params) (Array.mk []) (Drawn.mk 0 0 0 0) 1086 os).heap && (fun (s : Shared) => xlAt view [] s && recOk PySem.Challenge.rw_on0381_01.row.records s) (Shared.mk (heap_615 w.params) (Array.mk []) (Drawn.mk 0 0 0 0) 1086 os) && if Bool.true = Bool.true then (Shared.mk (heap_615 w.params) (Array.mk []) (Drawn.mk 0 0 0 0) 1086 os).gens.size == 0 else !leftWithCleanup (Shared.mk (heap_615 w.params) (Array.mk []) (Drawn.mk 0 0 0 0) 1086 os).gens) = fun (os : OsState) => Bool.true := by intro w; (try rewrite [PySem.W.Fast.te10880121769531294198]); (try rewrite [PySem.W.Fast.te821141287760084731]); (try rewrite [PySem.W.R.mapR_eq]); (try rewrite [PySem.W.Fast.te3399658132070893891]); (try rewrite [PySem.W.Fast.te7409074990110511671]); (try rewrite [PySem.W.Fast.te13664370479719496447]); (try rewrite [PySem.W.Fast.te14722251495701143533]); (try rewrite [PySem.W.Fast.te5923862056798008813]); (try rewrite [PySem.W.Fast.te2368527892694137696]); (try rewrite [PySem.W.Fast.te10994771534591457954]); kernel_rfl
theorem p630 : ∀ (w : World), (fun (os : OsState) => PyProof.Rows.tabsOk view (Shared.mk (heap_615 w.params) (Array.mk []) (Drawn.mk 0 0 0 0) 1086 os)) = fun (os : OsState) => Bool.true := by intro w; (try rewrite [PySem.W.Fast.te479339242167458305]); kernel_rfl
theorem p632 : ∀ (w : World), (fun (os : OsState) => pinSeenD view (PyProof.Rows.drecsOf view) (Shared.mk (heap_615 w.params) (Array.mk []) (Drawn.mk 0 0 0 0) 1086 os)) = fun (os : OsState) => pinGoodD (PyProof.Rows.drecsOf view) := by intro w; (try rewrite [PySem.W.Fast.te16090120013241838585]); (try rewrite [PySem.W.Fast.te3247288618530077131]); kernel_rfl
theorem p634 : ∀ (w : World), (fun (os : OsState) => PyProof.Rows.plainSeenE view (looseW view [Str.ofString "UniError", Str.ofString "LINE_JAMO", Str.ofString "LineBreaks"]) (Shared.mk (heap_615 w.params) (Array.mk []) (Drawn.mk 0 0 0 0) 1086 os)) = fun (os : OsState) => PyProof.Rows.plainGoodE view (looseW view [Str.ofString "UniError", Str.ofString "LINE_JAMO", Str.ofString "LineBreaks"]) := by intro w; (try rewrite [PySem.W.Fast.te2386780881361962483]); (try rewrite [PySem.W.Fast.te821141287760084731]); kernel_rfl
theorem p636 : ∀ (w : World), (fun (os : OsState) => PyProof.Rows.plainSeenD view [Str.ofString "UniError", Str.ofString "LINE_JAMO", Str.ofString "LineBreaks"] (Shared.mk (heap_615 w.params) (Array.mk []) (Drawn.mk 0 0 0 0) 1086 os)) = fun (os : OsState) => PyProof.Rows.plainGoodD view [Str.ofString "UniError", Str.ofString "LINE_JAMO", Str.ofString "LineBreaks"] := by intro w; (try rewrite [PySem.W.Fast.te11698064438423848299]); kernel_rfl
theorem p638 : ∀ (w : World), (fun (os : OsState) => wideSeen view (Shared.mk (heap_615 w.params) (Array.mk []) (Drawn.mk 0 0 0 0) 1086 os)) = fun (os : OsState) => wideGood view := by intro w; (try rewrite [PySem.W.Fast.te7317090234206586261]); kernel_rfl
theorem p640 : ∀ (w : World), (fun (os : OsState) => clsSeenW view [Str.ofString "UniError", Str.ofString "LINE_JAMO", Str.ofString "LineBreaks"] (Shared.mk (heap_615 w.params) (Array.mk []) (Drawn.mk 0 0 0 0) 1086 os)) = fun (os : OsState) => clsGoodW view [Str.ofString "UniError", Str.ofString "LINE_JAMO", Str.ofString "LineBreaks"] := by intro w; (try rewrite [PySem.W.Fast.te7369524293546568484]); kernel_rfl
theorem p641 : ∀ (w : World) (os : OsState), (wideSeen view (Shared.mk (heap_615 w.params) (Array.mk []) (Drawn.mk 0 0 0 0) 1086 os), clsSeenW view [Str.ofString "UniError", Str.ofString "LINE_JAMO", Str.ofString "LineBreaks"] (Shared.mk (heap_615 w.params) (Array.mk []) (Drawn.mk 0 0 0 0) 1086 os)) = (wideGood view, clsGoodW view [Str.ofString "UniError", Str.ofString "LINE_JAMO", Str.ofString "LineBreaks"]) := fun (w : World) (os : OsState) => looks_pair ((fun (w : World) (os : OsState) => congrFun (p638 w) os) w os) ((fun (w : World) (os : OsState) => congrFun (p640 w) os) w os)
theorem p642 : ∀ (w : World) (os : OsState), (PyProof.Rows.plainSeenD view [Str.ofString "UniError", Str.ofString "LINE_JAMO", Str.ofString "LineBreaks"] (Shared.mk (heap_615 w.params) (Array.mk []) (Drawn.mk 0 0 0 0) 1086 os), wideSeen view (Shared.mk (heap_615 w.params) (Array.mk []) (Drawn.mk 0 0 0 0) 1086 os), clsSeenW view [Str.ofString "UniError", Str.ofString "LINE_JAMO", Str.ofString "LineBreaks"] (Shared.mk (heap_615 w.params) (Array.mk []) (Drawn.mk 0 0 0 0) 1086 os)) = (PyProof.Rows.plainGoodD view [Str.ofString "UniError", Str.ofString "LINE_JAMO", Str.ofString "LineBreaks"], wideGood view, clsGoodW view [Str.ofString "UniError", Str.ofString "LINE_JAMO", Str.ofString "LineBreaks"]) := fun (w : World) (os : OsState) => looks_pair ((fun (w : World) (os : OsState) => congrFun (p636 w) os) w os) (p641 w os)
theorem p643 : ∀ (w : World) (os : OsState), (PyProof.Rows.plainSeenE view (looseW view [Str.ofString "UniError", Str.ofString "LINE_JAMO", Str.ofString "LineBreaks"]) (Shared.mk (heap_615 w.params) (Array.mk []) (Drawn.mk 0 0 0 0) 1086 os), PyProof.Rows.plainSeenD view [Str.ofString "UniError", Str.ofString "LINE_JAMO", Str.ofString "LineBreaks"] (Shared.mk (heap_615 w.params) (Array.mk []) (Drawn.mk 0 0 0 0) 1086 os), wideSeen view (Shared.mk (heap_615 w.params) (Array.mk []) (Drawn.mk 0 0 0 0) 1086 os), clsSeenW view [Str.ofString "UniError", Str.ofString "LINE_JAMO", Str.ofString "LineBreaks"] (Shared.mk (heap_615 w.params) (Array.mk []) (Drawn.mk 0 0 0 0) 1086 os)) = (PyProof.Rows.plainGoodE view (looseW view [Str.ofString "UniError", Str.ofString "LINE_JAMO", Str.ofString "LineBreaks"]), PyProof.Rows.plainGoodD view [Str.ofString "UniError", Str.ofString "LINE_JAMO", Str.ofString "LineBreaks"], wideGood view, clsGoodW view [Str.ofString "UniError", Str.ofString "LINE_JAMO", Str.ofString "LineBreaks"]) := fun (w : World) (os : OsState) => looks_pair ((fun (w : World) (os : OsState) => congrFun (p634 w) os) w os) (p642 w os)
theorem p644 : ∀ (w : World) (os : OsState), (pinSeenD view (PyProof.Rows.drecsOf view) (Shared.mk (heap_615 w.params) (Array.mk []) (Drawn.mk 0 0 0 0) 1086 os), PyProof.Rows.plainSeenE view (looseW view [Str.ofString "UniError", Str.ofString "LINE_JAMO", Str.ofString "LineBreaks"]) (Shared.mk (heap_615 w.params) (Array.mk []) (Drawn.mk 0 0 0 0) 1086 os), PyProof.Rows.plainSeenD view [Str.ofString "UniError", Str.ofString "LINE_JAMO", Str.ofString "LineBreaks"] (Shared.mk (heap_615 w.params) (Array.mk []) (Drawn.mk 0 0 0 0) 1086 os), wideSeen view (Shared.mk (heap_615 w.params) (Array.mk []) (Drawn.mk 0 0 0 0) 1086 os), clsSeenW view [Str.ofString "UniError", Str.ofString "LINE_JAMO", Str.ofString "LineBreaks"] (Shared.mk (heap_615 w.params) (Array.mk []) (Drawn.mk 0 0 0 0) 1086 os)) = (pinGoodD (PyProof.Rows.drecsOf view), PyProof.Rows.plainGoodE view (looseW view [Str.ofString "UniError", Str.ofString "LINE_JAMO", Str.ofString "LineBreaks"]), PyProof.Rows.plainGoodD view [Str.ofString "UniError", Str.ofString "LINE_JAMO", Str.ofString "LineBreaks"], wideGood view, clsGoodW view [Str.ofString "UniError", Str.ofString "LINE_JAMO", Str.ofString "LineBreaks"]) := fun (w : World) (os : OsState) => looks_pair ((fun (w : World) (os : OsState) => congrFun (p632 w) os) w os) (p643 w os)
theorem p645 : ∀ (w : World) (os : OsState), (PyProof.Rows.tabsOk view (Shared.mk (heap_615 w.params) (Array.mk []) (Drawn.mk 0 0 0 0) 1086 os), pinSeenD view (PyProof.Rows.drecsOf view) (Shared.mk (heap_615 w.params) (Array.mk []) (Drawn.mk 0 0 0 0) 1086 os), PyProof.Rows.plainSeenE view (looseW view [Str.ofString "UniError", Str.ofString "LINE_JAMO", Str.ofString "LineBreaks"]) (Shared.mk (heap_615 w.params) (Array.mk []) (Drawn.mk 0 0 0 0) 1086 os), PyProof.Rows.plainSeenD view [Str.ofString "UniError", Str.ofString "LINE_JAMO", Str.ofString "LineBreaks"] (Shared.mk (heap_615 w.params) (Array.mk []) (Drawn.mk 0 0 0 0) 1086 os), wideSeen view (Shared.mk (heap_615 w.params) (Array.mk []) (Drawn.mk 0 0 0 0) 1086 os), clsSeenW view [Str.ofString "UniError", Str.ofString "LINE_JAMO", Str.ofString "LineBreaks"] (Shared.mk (heap_615 w.params) (Array.mk []) (Drawn.mk 0 0 0 0) 1086 os)) = (Bool.true, pinGoodD (PyProof.Rows.drecsOf view), PyProof.Rows.plainGoodE view (looseW view [Str.ofString "UniError", Str.ofString "LINE_JAMO", Str.ofString "LineBreaks"]), PyProof.Rows.plainGoodD view [Str.ofString "UniError", Str.ofString "LINE_JAMO", Str.ofString "LineBreaks"], wideGood view, clsGoodW view [Str.ofString "UniError", Str.ofString "LINE_JAMO", Str.ofString "LineBreaks"]) := fun (w : World) (os : OsState) => looks_pair ((fun (w : World) (os : OsState) => congrFun (p630 w) os) w os) (p644 w os)
theorem p646 : ∀ (w : World) (os : OsState), ((Shared.mk (heap_615 w.params) (Array.mk []) (Drawn.mk 0 0 0 0) 1086 os).heap.keysOk (looseW view [Str.ofString "UniError", Str.ofString "LINE_JAMO", Str.ofString "LineBreaks"]) (List.map (fun (x : DefRec) => x.name) (PyProof.Rows.recsOf view)) (List.map (fun (x : Str × PyData) => x.fst) (PyProof.Rows.litsOf view)) (List.map (fun (x : ClsRec) => x.name) (PyProof.Rows.clssOf view (looseW view [Str.ofString "UniError", Str.ofString "LINE_JAMO", Str.ofString "LineBreaks"]))) && (Shared.mk (heap_615 w.params) (Array.mk []) (Drawn.mk 0 0 0 0) 1086 os).heap.accountedOkI (importedModules prg.main.body) && (Shared.mk (heap_615 w.params) (Array.mk []) (Drawn.mk 0 0 0 0) 1086 os).heap.isNs mainGlobals && (Shared.mk (heap_615 w.params) (Array.mk []) (Drawn.mk 0 0 0 0) 1086 os).heap.isNs builtinsNs && PyProof.Rows.tablesOk view (Shared.mk (heap_615 w.params) (Array.mk []) (Drawn.mk 0 0 0 0) 1086 os).heap && (fun (s : Shared) => xlAt view [] s && recOk PySem.Challenge.rw_on0381_01.row.records s) (Shared.mk (heap_615 w.params) (Array.mk []) (Drawn.mk 0 0 0 0) 1086 os) && if Bool.true = Bool.true then (Shared.mk (heap_615 w.params) (Array.mk []) (Drawn.mk 0 0 0 0) 1086 os).gens.size == 0 else !leftWithCleanup (Shared.mk (heap_615 w.params) (Array.mk []) (Drawn.mk 0 0 0 0) 1086 os).gens, PyProof.Rows.tabsOk view (Shared.mk (heap_615 w.params) (Array.mk []) (Drawn.mk 0 0 0 0) 1086 os), pinSeenD view (PyProof.Rows.drecsOf view) (Shared.mk (heap_615 w.params) (Array.mk []) (Drawn.mk 0 0 0 0) 1086 os), PyProof.Rows.plainSeenE view (looseW view [Str.ofString "UniError", Str.ofString "LINE_JAMO", Str.ofString "LineBreaks"]) (Shared.mk (heap_615 w.params) (Array.mk []) (Drawn.mk 0 0 0 0) 1086 os), PyProof.Rows.plainSeenD view [Str.ofString "UniError", Str.ofString "LINE_JAMO", Str.ofString "LineBreaks"] (Shared.mk (heap_615 w.params) (Array.mk []) (Drawn.mk 0 0 0 0) 1086 os), wideSeen view (Shared.mk (heap_615 w.params) (Array.mk []) (Drawn.mk 0 0 0 0) 1086 os), clsSeenW view [Str.ofString "UniError", Str.ofString "LINE_JAMO", Str.ofString "LineBreaks"] (Shared.mk (heap_615 w.params) (Array.mk []) (Drawn.mk 0 0 0 0) 1086 os)) = (Bool.true, Bool.true, pinGoodD (PyProof.Rows.drecsOf view), PyProof.Rows.plainGoodE view (looseW view [Str.ofString "UniError", Str.ofString "LINE_JAMO", Str.ofString "LineBreaks"]), PyProof.Rows.plainGoodD view [Str.ofString "UniError", Str.ofString "LINE_JAMO", Str.ofString "LineBreaks"], wideGood view, clsGoodW view [Str.ofString "UniError", Str.ofString "LINE_JAMO", Str.ofString "LineBreaks"]) := fun (w : World) (os : OsState) => looks_pair ((fun (w : World) (os : OsState) => congrFun (p628 w) os) w os) (p645 w os)
theorem p647 : ∀ (w : World) (os : OsState), ((Shared.mk (heap_615 w.params) (Array.mk []) (Drawn.mk 0 0 0 0) 1086 os).heap.bltView, (Shared.mk (heap_615 w.params) (Array.mk []) (Drawn.mk 0 0 0 0) 1086 os).heap.keysOk (looseW view [Str.ofString "UniError", Str.ofString "LINE_JAMO", Str.ofString "LineBreaks"]) (List.map (fun (x : DefRec) => x.name) (PyProof.Rows.recsOf view)) (List.map (fun (x : Str × PyData) => x.fst) (PyProof.Rows.litsOf view)) (List.map (fun (x : ClsRec) => x.name) (PyProof.Rows.clssOf view (looseW view [Str.ofString "UniError", Str.ofString "LINE_JAMO", Str.ofString "LineBreaks"]))) && (Shared.mk (heap_615 w.params) (Array.mk []) (Drawn.mk 0 0 0 0) 1086 os).heap.accountedOkI (importedModules prg.main.body) && (Shared.mk (heap_615 w.params) (Array.mk []) (Drawn.mk 0 0 0 0) 1086 os).heap.isNs mainGlobals && (Shared.mk (heap_615 w.params) (Array.mk []) (Drawn.mk 0 0 0 0) 1086 os).heap.isNs builtinsNs && PyProof.Rows.tablesOk view (Shared.mk (heap_615 w.params) (Array.mk []) (Drawn.mk 0 0 0 0) 1086 os).heap && (fun (s : Shared) => xlAt view [] s && recOk PySem.Challenge.rw_on0381_01.row.records s) (Shared.mk (heap_615 w.params) (Array.mk []) (Drawn.mk 0 0 0 0) 1086 os) && if Bool.true = Bool.true then (Shared.mk (heap_615 w.params) (Array.mk []) (Drawn.mk 0 0 0 0) 1086 os).gens.size == 0 else !leftWithCleanup (Shared.mk (heap_615 w.params) (Array.mk []) (Drawn.mk 0 0 0 0) 1086 os).gens, PyProof.Rows.tabsOk view (Shared.mk (heap_615 w.params) (Array.mk []) (Drawn.mk 0 0 0 0) 1086 os), pinSeenD view (PyProof.Rows.drecsOf view) (Shared.mk (heap_615 w.params) (Array.mk []) (Drawn.mk 0 0 0 0) 1086 os), PyProof.Rows.plainSeenE view (looseW view [Str.ofString "UniError", Str.ofString "LINE_JAMO", Str.ofString "LineBreaks"]) (Shared.mk (heap_615 w.params) (Array.mk []) (Drawn.mk 0 0 0 0) 1086 os), PyProof.Rows.plainSeenD view [Str.ofString "UniError", Str.ofString "LINE_JAMO", Str.ofString "LineBreaks"] (Shared.mk (heap_615 w.params) (Array.mk []) (Drawn.mk 0 0 0 0) 1086 os), wideSeen view (Shared.mk (heap_615 w.params) (Array.mk []) (Drawn.mk 0 0 0 0) 1086 os), clsSeenW view [Str.ofString "UniError", Str.ofString "LINE_JAMO", Str.ofString "LineBreaks"] (Shared.mk (heap_615 w.params) (Array.mk []) (Drawn.mk 0 0 0 0) 1086 os)) = (bltViewBooted, Bool.true, Bool.true, pinGoodD (PyProof.Rows.drecsOf view), PyProof.Rows.plainGoodE view (looseW view [Str.ofString "UniError", Str.ofString "LINE_JAMO", Str.ofString "LineBreaks"]), PyProof.Rows.plainGoodD view [Str.ofString "UniError", Str.ofString "LINE_JAMO", Str.ofString "LineBreaks"], wideGood view, clsGoodW view [Str.ofString "UniError", Str.ofString "LINE_JAMO", Str.ofString "LineBreaks"]) := fun (w : World) (os : OsState) => looks_pair ((fun (w : World) (os : OsState) => congrFun (p626 w) os) w os) (p646 w os)
theorem p648 : ∀ (w : World) (os : OsState), openSeen view [Str.ofString "UniError", Str.ofString "LINE_JAMO", Str.ofString "LineBreaks"] (importedModules prg.main.body) (fun (s : Shared) => xlAt view [] s && recOk PySem.Challenge.rw_on0381_01.row.records s) Bool.true (Shared.mk (heap_615 w.params) (Array.mk []) (Drawn.mk 0 0 0 0) 1086 os) = openGood view [Str.ofString "UniError", Str.ofString "LINE_JAMO", Str.ofString "LineBreaks"] := fun (w : World) (os : OsState) => looks_pair ((fun (w : World) (os : OsState) => congrFun (p624 w) os) w os) (p647 w os)
theorem p650 : ∀ (w : World), (fun (os : OsState) => hook.obs (Shared.mk (heap_615 w.params) (Array.mk []) (Drawn.mk 0 0 0 0) 1086 os)) = fun (os : OsState) => hook.val w := by intro w; kernel_rfl
theorem p651 : ∀ (w : World) (os : OsState), (openSeen view [Str.ofString "UniError", Str.ofString "LINE_JAMO", Str.ofString "LineBreaks"] (importedModules prg.main.body) (fun (s : Shared) => xlAt view [] s && recOk PySem.Challenge.rw_on0381_01.row.records s) Bool.true (Shared.mk (heap_615 w.params) (Array.mk []) (Drawn.mk 0 0 0 0) 1086 os), hook.obs (Shared.mk (heap_615 w.params) (Array.mk []) (Drawn.mk 0 0 0 0) 1086 os)) = (openGood view [Str.ofString "UniError", Str.ofString "LINE_JAMO", Str.ofString "LineBreaks"], hook.val w) := fun (w : World) (os : OsState) => looks_pair (p648 w os) ((fun (w : World) (os : OsState) => congrFun (p650 w) os) w os)
theorem p652 : ∀ (w : World) (os : OsState), (staticsOk (importedModules prg.main.body) (boot_heap w.params) (heap_615 w.params) && namesBound prg (heap_615 w.params) && gensDone (Shared.mk (heap_615 w.params) (Array.mk []) (Drawn.mk 0 0 0 0) 1086 os) && laidKept (boot_heap w.params) (heap_615 w.params), openSeen view [Str.ofString "UniError", Str.ofString "LINE_JAMO", Str.ofString "LineBreaks"] (importedModules prg.main.body) (fun (s : Shared) => xlAt view [] s && recOk PySem.Challenge.rw_on0381_01.row.records s) Bool.true (Shared.mk (heap_615 w.params) (Array.mk []) (Drawn.mk 0 0 0 0) 1086 os), hook.obs (Shared.mk (heap_615 w.params) (Array.mk []) (Drawn.mk 0 0 0 0) 1086 os)) = (Bool.true, openGood view [Str.ofString "UniError", Str.ofString "LINE_JAMO", Str.ofString "LineBreaks"], hook.val w) := fun (w : World) (os : OsState) => looks_pair ((fun (w : World) (os : OsState) => congrFun (p622 w) os) w os) (p651 w os)
theorem p653 : PySem.Challenge.rw_on0381_01.row.claim.pre [WData.list []] = Bool.true := by decide +kernel
theorem p654 : (WData.layableAll [WData.list []] && PySem.Challenge.rw_on0381_01.row.returnsAt [WData.list []]) = Bool.true := by decide +kernel
theorem left : LeftO PySem.Challenge.rw_on0381_01.row.toRowW.1 view [Str.ofString "UniError", Str.ofString "LINE_JAMO", Str.ofString "LineBreaks"] (fun s => xlAt view [] s && recOk PySem.Challenge.rw_on0381_01.row.records s) hook.obs hook.val 7960 :=
  LeftO.of_pieces (boot_open p42 (by decide) p43) p620 p618 (by decide) fun w => funext fun os => p652 w os
end H

set_option tactic.hygienic false
theorem fill_all : ∀ P, H.frag P = H.frag P ∧ PySem.Challenge.rw_on0381_01 = PySem.Challenge.rw_on0381_01 := by
  k_fill
  exact fun P => ⟨rfl, rfl⟩
noncomputable abbrev Lo := List Str × Addr × List Int
noncomputable abbrev mkG (w : World) (mg mb : Str → Option Value) (lo : Lo) : Gd := ⟨PySem.Challenge.pw_on0381_01, w, H.frag w.params, H.view, lo.1, mg, mb, lo.2.1, lo.2.2⟩
local macro_rules | `(tactic| ktr_unf) => `(tactic| (dsimp only [mkG]; k_is))
section
variable {w : World} {mg mb : Str → Option Value} {lo : Lo}
theorem gp_LineHow_strictness {n : Nat} {H : Hp} {x dx : Addr} {l : List (D × D)} {d : D} (h1 : H x = some (.ins 122 dx)) (h2 : H dx = some (.dct l)) (hl : sget (Str.ofString "strictness") l = some d) (hd : ∀ id, d ≠ .bi id := by intro _ e; cases e) : GetP (mkG w mg mb lo) n H (.ref x) (Str.ofString "strictness") d := GetP.own h1 h2 hl (by ktr_unf) (by ktr_unf) (by ktr_unf) (by ktr_unf) hd
theorem sa_LineHow_strictness {n : Nat} {H : Hp} {x dx : Addr} {l : List (D × D)} {d : D} {Q : Hp → Prop} (h1 : H x = some (.ins 122 dx)) (h2 : H dx = some (.dct l)) (hz : l.length ≤ 900) (q : Q (H.set dx (.dct (sput (Str.ofString "strictness") d l)))) : SetA (mkG w mg mb lo) n H (.ref x) (Str.ofString "strictness") d Q := SetA.own h1 h2 (by ktr_unf) (by ktr_unf) (by ktr_unf) (by ktr_unf) q hz
theorem gp_LineHow_keep_all {n : Nat} {H : Hp} {x dx : Addr} {l : List (D × D)} {d : D} (h1 : H x = some (.ins 122 dx)) (h2 : H dx = some (.dct l)) (hl : sget (Str.ofString "keep_all") l = some d) (hd : ∀ id, d ≠ .bi id := by intro _ e; cases e) : GetP (mkG w mg mb lo) n H (.ref x) (Str.ofString "keep_all") d := GetP.own h1 h2 hl (by ktr_unf) (by ktr_unf) (by ktr_unf) (by ktr_unf) hd
theorem sa_LineHow_keep_all {n : Nat} {H : Hp} {x dx : Addr} {l : List (D × D)} {d : D} {Q : Hp → Prop} (h1 : H x = some (.ins 122 dx)) (h2 : H dx = some (.dct l)) (hz : l.length ≤ 900) (q : Q (H.set dx (.dct (sput (Str.ofString "keep_all") d l)))) : SetA (mkG w mg mb lo) n H (.ref x) (Str.ofString "keep_all") d Q := SetA.own h1 h2 (by ktr_unf) (by ktr_unf) (by ktr_unf) (by ktr_unf) q hz
theorem gp_LineHow_numbers {n : Nat} {H : Hp} {x dx : Addr} {l : List (D × D)} {d : D} (h1 : H x = some (.ins 122 dx)) (h2 : H dx = some (.dct l)) (hl : sget (Str.ofString "numbers") l = some d) (hd : ∀ id, d ≠ .bi id := by intro _ e; cases e) : GetP (mkG w mg mb lo) n H (.ref x) (Str.ofString "numbers") d := GetP.own h1 h2 hl (by ktr_unf) (by ktr_unf) (by ktr_unf) (by ktr_unf) hd
theorem sa_LineHow_numbers {n : Nat} {H : Hp} {x dx : Addr} {l : List (D × D)} {d : D} {Q : Hp → Prop} (h1 : H x = some (.ins 122 dx)) (h2 : H dx = some (.dct l)) (hz : l.length ≤ 900) (q : Q (H.set dx (.dct (sput (Str.ofString "numbers") d l)))) : SetA (mkG w mg mb lo) n H (.ref x) (Str.ofString "numbers") d Q := SetA.own h1 h2 (by ktr_unf) (by ktr_unf) (by ktr_unf) (by ktr_unf) q hz
theorem gp_LineUnit_word {n : Nat} {H : Hp} {x dx : Addr} {l : List (D × D)} {d : D} (h1 : H x = some (.ins 157 dx)) (h2 : H dx = some (.dct l)) (hl : sget (Str.ofString "word") l = some d) (hd : ∀ id, d ≠ .bi id := by intro _ e; cases e) : GetP (mkG w mg mb lo) n H (.ref x) (Str.ofString "word") d := GetP.own h1 h2 hl (by ktr_unf) (by ktr_unf) (by ktr_unf) (by ktr_unf) hd
theorem sa_LineUnit_word {n : Nat} {H : Hp} {x dx : Addr} {l : List (D × D)} {d : D} {Q : Hp → Prop} (h1 : H x = some (.ins 157 dx)) (h2 : H dx = some (.dct l)) (hz : l.length ≤ 900) (q : Q (H.set dx (.dct (sput (Str.ofString "word") d l)))) : SetA (mkG w mg mb lo) n H (.ref x) (Str.ofString "word") d Q := SetA.own h1 h2 (by ktr_unf) (by ktr_unf) (by ktr_unf) (by ktr_unf) q hz
theorem gp_LineUnit_code {n : Nat} {H : Hp} {x dx : Addr} {l : List (D × D)} {d : D} (h1 : H x = some (.ins 157 dx)) (h2 : H dx = some (.dct l)) (hl : sget (Str.ofString "code") l = some d) (hd : ∀ id, d ≠ .bi id := by intro _ e; cases e) : GetP (mkG w mg mb lo) n H (.ref x) (Str.ofString "code") d := GetP.own h1 h2 hl (by ktr_unf) (by ktr_unf) (by ktr_unf) (by ktr_unf) hd
theorem sa_LineUnit_code {n : Nat} {H : Hp} {x dx : Addr} {l : List (D × D)} {d : D} {Q : Hp → Prop} (h1 : H x = some (.ins 157 dx)) (h2 : H dx = some (.dct l)) (hz : l.length ≤ 900) (q : Q (H.set dx (.dct (sput (Str.ofString "code") d l)))) : SetA (mkG w mg mb lo) n H (.ref x) (Str.ofString "code") d Q := SetA.own h1 h2 (by ktr_unf) (by ktr_unf) (by ktr_unf) (by ktr_unf) q hz
theorem gp_LineUnit_at {n : Nat} {H : Hp} {x dx : Addr} {l : List (D × D)} {d : D} (h1 : H x = some (.ins 157 dx)) (h2 : H dx = some (.dct l)) (hl : sget (Str.ofString "at") l = some d) (hd : ∀ id, d ≠ .bi id := by intro _ e; cases e) : GetP (mkG w mg mb lo) n H (.ref x) (Str.ofString "at") d := GetP.own h1 h2 hl (by ktr_unf) (by ktr_unf) (by ktr_unf) (by ktr_unf) hd
theorem sa_LineUnit_at {n : Nat} {H : Hp} {x dx : Addr} {l : List (D × D)} {d : D} {Q : Hp → Prop} (h1 : H x = some (.ins 157 dx)) (h2 : H dx = some (.dct l)) (hz : l.length ≤ 900) (q : Q (H.set dx (.dct (sput (Str.ofString "at") d l)))) : SetA (mkG w mg mb lo) n H (.ref x) (Str.ofString "at") d Q := SetA.own h1 h2 (by ktr_unf) (by ktr_unf) (by ktr_unf) (by ktr_unf) q hz
theorem gp_LineUnit_is_joined {n : Nat} {H : Hp} {x dx : Addr} {l : List (D × D)} {d : D} (h1 : H x = some (.ins 157 dx)) (h2 : H dx = some (.dct l)) (hl : sget (Str.ofString "is_joined") l = some d) (hd : ∀ id, d ≠ .bi id := by intro _ e; cases e) : GetP (mkG w mg mb lo) n H (.ref x) (Str.ofString "is_joined") d := GetP.own h1 h2 hl (by ktr_unf) (by ktr_unf) (by ktr_unf) (by ktr_unf) hd
theorem sa_LineUnit_is_joined {n : Nat} {H : Hp} {x dx : Addr} {l : List (D × D)} {d : D} {Q : Hp → Prop} (h1 : H x = some (.ins 157 dx)) (h2 : H dx = some (.dct l)) (hz : l.length ≤ 900) (q : Q (H.set dx (.dct (sput (Str.ofString "is_joined") d l)))) : SetA (mkG w mg mb lo) n H (.ref x) (Str.ofString "is_joined") d Q := SetA.own h1 h2 (by ktr_unf) (by ktr_unf) (by ktr_unf) (by ktr_unf) q hz
theorem gp_LineView_data {n : Nat} {H : Hp} {x dx : Addr} {l : List (D × D)} {d : D} (h1 : H x = some (.ins 213 dx)) (h2 : H dx = some (.dct l)) (hl : sget (Str.ofString "data") l = some d) (hd : ∀ id, d ≠ .bi id := by intro _ e; cases e) : GetP (mkG w mg mb lo) n H (.ref x) (Str.ofString "data") d := GetP.own h1 h2 hl (by ktr_unf) (by ktr_unf) (by ktr_unf) (by ktr_unf) hd
theorem sa_LineView_data {n : Nat} {H : Hp} {x dx : Addr} {l : List (D × D)} {d : D} {Q : Hp → Prop} (h1 : H x = some (.ins 213 dx)) (h2 : H dx = some (.dct l)) (hz : l.length ≤ 900) (q : Q (H.set dx (.dct (sput (Str.ofString "data") d l)))) : SetA (mkG w mg mb lo) n H (.ref x) (Str.ofString "data") d Q := SetA.own h1 h2 (by ktr_unf) (by ktr_unf) (by ktr_unf) (by ktr_unf) q hz
theorem gp_LineView_how {n : Nat} {H : Hp} {x dx : Addr} {l : List (D × D)} {d : D} (h1 : H x = some (.ins 213 dx)) (h2 : H dx = some (.dct l)) (hl : sget (Str.ofString "how") l = some d) (hd : ∀ id, d ≠ .bi id := by intro _ e; cases e) : GetP (mkG w mg mb lo) n H (.ref x) (Str.ofString "how") d := GetP.own h1 h2 hl (by ktr_unf) (by ktr_unf) (by ktr_unf) (by ktr_unf) hd
theorem sa_LineView_how {n : Nat} {H : Hp} {x dx : Addr} {l : List (D × D)} {d : D} {Q : Hp → Prop} (h1 : H x = some (.ins 213 dx)) (h2 : H dx = some (.dct l)) (hz : l.length ≤ 900) (q : Q (H.set dx (.dct (sput (Str.ofString "how") d l)))) : SetA (mkG w mg mb lo) n H (.ref x) (Str.ofString "how") d Q := SetA.own h1 h2 (by ktr_unf) (by ktr_unf) (by ktr_unf) (by ktr_unf) q hz
theorem gp_LineView_units {n : Nat} {H : Hp} {x dx : Addr} {l : List (D × D)} {d : D} (h1 : H x = some (.ins 213 dx)) (h2 : H dx = some (.dct l)) (hl : sget (Str.ofString "units") l = some d) (hd : ∀ id, d ≠ .bi id := by intro _ e; cases e) : GetP (mkG w mg mb lo) n H (.ref x) (Str.ofString "units") d := GetP.own h1 h2 hl (by ktr_unf) (by ktr_unf) (by ktr_unf) (by ktr_unf) hd
theorem sa_LineView_units {n : Nat} {H : Hp} {x dx : Addr} {l : List (D × D)} {d : D} {Q : Hp → Prop} (h1 : H x = some (.ins 213 dx)) (h2 : H dx = some (.dct l)) (hz : l.length ≤ 900) (q : Q (H.set dx (.dct (sput (Str.ofString "units") d l)))) : SetA (mkG w mg mb lo) n H (.ref x) (Str.ofString "units") d Q := SetA.own h1 h2 (by ktr_unf) (by ktr_unf) (by ktr_unf) (by ktr_unf) q hz
theorem gp_LineView_solid {n : Nat} {H : Hp} {x dx : Addr} {l : List (D × D)} {d : D} (h1 : H x = some (.ins 213 dx)) (h2 : H dx = some (.dct l)) (hl : sget (Str.ofString "solid") l = some d) (hd : ∀ id, d ≠ .bi id := by intro _ e; cases e) : GetP (mkG w mg mb lo) n H (.ref x) (Str.ofString "solid") d := GetP.own h1 h2 hl (by ktr_unf) (by ktr_unf) (by ktr_unf) (by ktr_unf) hd
theorem sa_LineView_solid {n : Nat} {H : Hp} {x dx : Addr} {l : List (D × D)} {d : D} {Q : Hp → Prop} (h1 : H x = some (.ins 213 dx)) (h2 : H dx = some (.dct l)) (hz : l.length ≤ 900) (q : Q (H.set dx (.dct (sput (Str.ofString "solid") d l)))) : SetA (mkG w mg mb lo) n H (.ref x) (Str.ofString "solid") d Q := SetA.own h1 h2 (by ktr_unf) (by ktr_unf) (by ktr_unf) (by ktr_unf) q hz
theorem gp_LineView_regional {n : Nat} {H : Hp} {x dx : Addr} {l : List (D × D)} {d : D} (h1 : H x = some (.ins 213 dx)) (h2 : H dx = some (.dct l)) (hl : sget (Str.ofString "regional") l = some d) (hd : ∀ id, d ≠ .bi id := by intro _ e; cases e) : GetP (mkG w mg mb lo) n H (.ref x) (Str.ofString "regional") d := GetP.own h1 h2 hl (by ktr_unf) (by ktr_unf) (by ktr_unf) (by ktr_unf) hd
theorem sa_LineView_regional {n : Nat} {H : Hp} {x dx : Addr} {l : List (D × D)} {d : D} {Q : Hp → Prop} (h1 : H x = some (.ins 213 dx)) (h2 : H dx = some (.dct l)) (hz : l.length ≤ 900) (q : Q (H.set dx (.dct (sput (Str.ofString "regional") d l)))) : SetA (mkG w mg mb lo) n H (.ref x) (Str.ofString "regional") d Q := SetA.own h1 h2 (by ktr_unf) (by ktr_unf) (by ktr_unf) (by ktr_unf) q hz
theorem gp_LineView_numeric {n : Nat} {H : Hp} {x dx : Addr} {l : List (D × D)} {d : D} (h1 : H x = some (.ins 213 dx)) (h2 : H dx = some (.dct l)) (hl : sget (Str.ofString "numeric") l = some d) (hd : ∀ id, d ≠ .bi id := by intro _ e; cases e) : GetP (mkG w mg mb lo) n H (.ref x) (Str.ofString "numeric") d := GetP.own h1 h2 hl (by ktr_unf) (by ktr_unf) (by ktr_unf) (by ktr_unf) hd
theorem sa_LineView_numeric {n : Nat} {H : Hp} {x dx : Addr} {l : List (D × D)} {d : D} {Q : Hp → Prop} (h1 : H x = some (.ins 213 dx)) (h2 : H dx = some (.dct l)) (hz : l.length ≤ 900) (q : Q (H.set dx (.dct (sput (Str.ofString "numeric") d l)))) : SetA (mkG w mg mb lo) n H (.ref x) (Str.ofString "numeric") d Q := SetA.own h1 h2 (by ktr_unf) (by ktr_unf) (by ktr_unf) (by ktr_unf) q hz
theorem gp_LineBreaks_data {n : Nat} {H : Hp} {x dx : Addr} {l : List (D × D)} {d : D} (h1 : H x = some (.ins 394 dx)) (h2 : H dx = some (.dct l)) (hl : sget (Str.ofString "data") l = some d) (hd : ∀ id, d ≠ .bi id := by intro _ e; cases e) : GetP (mkG w mg mb lo) n H (.ref x) (Str.ofString "data") d := GetP.own h1 h2 hl (by ktr_unf) (by ktr_unf) (by ktr_unf) (by ktr_unf) hd
theorem sa_LineBreaks_data {n : Nat} {H : Hp} {x dx : Addr} {l : List (D × D)} {d : D} {Q : Hp → Prop} (h1 : H x = some (.ins 394 dx)) (h2 : H dx = some (.dct l)) (hz : l.length ≤ 900) (q : Q (H.set dx (.dct (sput (Str.ofString "data") d l)))) : SetA (mkG w mg mb lo) n H (.ref x) (Str.ofString "data") d Q := SetA.own h1 h2 (by ktr_unf) (by ktr_unf) (by ktr_unf) (by ktr_unf) q hz
theorem gp_LineBreaks_how {n : Nat} {H : Hp} {x dx : Addr} {l : List (D × D)} {d : D} (h1 : H x = some (.ins 394 dx)) (h2 : H dx = some (.dct l)) (hl : sget (Str.ofString "how") l = some d) (hd : ∀ id, d ≠ .bi id := by intro _ e; cases e) : GetP (mkG w mg mb lo) n H (.ref x) (Str.ofString "how") d := GetP.own h1 h2 hl (by ktr_unf) (by ktr_unf) (by ktr_unf) (by ktr_unf) hd
theorem sa_LineBreaks_how {n : Nat} {H : Hp} {x dx : Addr} {l : List (D × D)} {d : D} {Q : Hp → Prop} (h1 : H x = some (.ins 394 dx)) (h2 : H dx = some (.dct l)) (hz : l.length ≤ 900) (q : Q (H.set dx (.dct (sput (Str.ofString "how") d l)))) : SetA (mkG w mg mb lo) n H (.ref x) (Str.ofString "how") d Q := SetA.own h1 h2 (by ktr_unf) (by ktr_unf) (by ktr_unf) (by ktr_unf) q hz
theorem sa_RangeMap_default {n : Nat} {H : Hp} {x dx : Addr} {l : List (D × D)} {d : D} {Q : Hp → Prop} (h1 : H x = some (.ins 450 dx)) (h2 : H dx = some (.dct l)) (hz : l.length ≤ 900) (q : Q (H.set dx (.dct (sput (Str.ofString "default") d l)))) : SetA (mkG w mg mb lo) n H (.ref x) (Str.ofString "default") d Q := SetA.own h1 h2 (by ktr_unf) (by ktr_unf) (by ktr_unf) (by ktr_unf) q hz
theorem gp_RangeMap_starts {n : Nat} {H : Hp} {x dx : Addr} {l : List (D × D)} {d : D} (h1 : H x = some (.ins 450 dx)) (h2 : H dx = some (.dct l)) (hl : sget (Str.ofString "starts") l = some d) (hd : ∀ id, d ≠ .bi id := by intro _ e; cases e) : GetP (mkG w mg mb lo) n H (.ref x) (Str.ofString "starts") d := GetP.own h1 h2 hl (by ktr_unf) (by ktr_unf) (by ktr_unf) (by ktr_unf) hd
theorem sa_RangeMap_starts {n : Nat} {H : Hp} {x dx : Addr} {l : List (D × D)} {d : D} {Q : Hp → Prop} (h1 : H x = some (.ins 450 dx)) (h2 : H dx = some (.dct l)) (hz : l.length ≤ 900) (q : Q (H.set dx (.dct (sput (Str.ofString "starts") d l)))) : SetA (mkG w mg mb lo) n H (.ref x) (Str.ofString "starts") d Q := SetA.own h1 h2 (by ktr_unf) (by ktr_unf) (by ktr_unf) (by ktr_unf) q hz
theorem gp_RangeMap_values {n : Nat} {H : Hp} {x dx : Addr} {l : List (D × D)} {d : D} (h1 : H x = some (.ins 450 dx)) (h2 : H dx = some (.dct l)) (hl : sget (Str.ofString "values") l = some d) (hd : ∀ id, d ≠ .bi id := by intro _ e; cases e) : GetP (mkG w mg mb lo) n H (.ref x) (Str.ofString "values") d := GetP.own h1 h2 hl (by ktr_unf) (by ktr_unf) (by ktr_unf) (by ktr_unf) hd
theorem sa_RangeMap_values {n : Nat} {H : Hp} {x dx : Addr} {l : List (D × D)} {d : D} {Q : Hp → Prop} (h1 : H x = some (.ins 450 dx)) (h2 : H dx = some (.dct l)) (hz : l.length ≤ 900) (q : Q (H.set dx (.dct (sput (Str.ofString "values") d l)))) : SetA (mkG w mg mb lo) n H (.ref x) (Str.ofString "values") d Q := SetA.own h1 h2 (by ktr_unf) (by ktr_unf) (by ktr_unf) (by ktr_unf) q hz
theorem gp_Data_defaults {n : Nat} {H : Hp} {x dx : Addr} {l : List (D × D)} {d : D} (h1 : H x = some (.ins 499 dx)) (h2 : H dx = some (.dct l)) (hl : sget (Str.ofString "defaults") l = some d) (hd : ∀ id, d ≠ .bi id := by intro _ e; cases e) : GetP (mkG w mg mb lo) n H (.ref x) (Str.ofString "defaults") d := GetP.own h1 h2 hl (by ktr_unf) (by ktr_unf) (by ktr_unf) (by ktr_unf) hd
theorem sa_Data_defaults {n : Nat} {H : Hp} {x dx : Addr} {l : List (D × D)} {d : D} {Q : Hp → Prop} (h1 : H x = some (.ins 499 dx)) (h2 : H dx = some (.dct l)) (hz : l.length ≤ 900) (q : Q (H.set dx (.dct (sput (Str.ofString "defaults") d l)))) : SetA (mkG w mg mb lo) n H (.ref x) (Str.ofString "defaults") d Q := SetA.own h1 h2 (by ktr_unf) (by ktr_unf) (by ktr_unf) (by ktr_unf) q hz
theorem gp_Data_maps {n : Nat} {H : Hp} {x dx : Addr} {l : List (D × D)} {d : D} (h1 : H x = some (.ins 499 dx)) (h2 : H dx = some (.dct l)) (hl : sget (Str.ofString "maps") l = some d) (hd : ∀ id, d ≠ .bi id := by intro _ e; cases e) : GetP (mkG w mg mb lo) n H (.ref x) (Str.ofString "maps") d := GetP.own h1 h2 hl (by ktr_unf) (by ktr_unf) (by ktr_unf) (by ktr_unf) hd
theorem sa_Data_maps {n : Nat} {H : Hp} {x dx : Addr} {l : List (D × D)} {d : D} {Q : Hp → Prop} (h1 : H x = some (.ins 499 dx)) (h2 : H dx = some (.dct l)) (hz : l.length ≤ 900) (q : Q (H.set dx (.dct (sput (Str.ofString "maps") d l)))) : SetA (mkG w mg mb lo) n H (.ref x) (Str.ofString "maps") d Q := SetA.own h1 h2 (by ktr_unf) (by ktr_unf) (by ktr_unf) (by ktr_unf) q hz
theorem sa_Data_properties {n : Nat} {H : Hp} {x dx : Addr} {l : List (D × D)} {d : D} {Q : Hp → Prop} (h1 : H x = some (.ins 499 dx)) (h2 : H dx = some (.dct l)) (hz : l.length ≤ 900) (q : Q (H.set dx (.dct (sput (Str.ofString "properties") d l)))) : SetA (mkG w mg mb lo) n H (.ref x) (Str.ofString "properties") d Q := SetA.own h1 h2 (by ktr_unf) (by ktr_unf) (by ktr_unf) (by ktr_unf) q hz
theorem sa_Data_words {n : Nat} {H : Hp} {x dx : Addr} {l : List (D × D)} {d : D} {Q : Hp → Prop} (h1 : H x = some (.ins 499 dx)) (h2 : H dx = some (.dct l)) (hz : l.length ≤ 900) (q : Q (H.set dx (.dct (sput (Str.ofString "words") d l)))) : SetA (mkG w mg mb lo) n H (.ref x) (Str.ofString "words") d Q := SetA.own h1 h2 (by ktr_unf) (by ktr_unf) (by ktr_unf) (by ktr_unf) q hz
theorem me_LineView_word : plainGet (mkG w mg mb lo).K 213 (Str.ofString "word") = true ∧ findIn (mkG w mg mb lo).K (.ref 213) (Str.ofString "word") = some (some (.ref 189)) ∧ isFn (mkG w mg mb lo).K (.ref 189) = true ∧ keepIn (mkG w mg mb lo).K (.ref 189) = true := ⟨by ktr_unf, by ktr_unf, by ktr_unf, by ktr_unf⟩
theorem me_LineView_solid_word : plainGet (mkG w mg mb lo).K 213 (Str.ofString "solid_word") = true ∧ findIn (mkG w mg mb lo).K (.ref 213) (Str.ofString "solid_word") = some (some (.ref 196)) ∧ isFn (mkG w mg mb lo).K (.ref 196) = true ∧ keepIn (mkG w mg mb lo).K (.ref 196) = true := ⟨by ktr_unf, by ktr_unf, by ktr_unf, by ktr_unf⟩
theorem me_LineView_is_quote : plainGet (mkG w mg mb lo).K 213 (Str.ofString "is_quote") = true ∧ findIn (mkG w mg mb lo).K (.ref 213) (Str.ofString "is_quote") = some (some (.ref 203)) ∧ isFn (mkG w mg mb lo).K (.ref 203) = true ∧ keepIn (mkG w mg mb lo).K (.ref 203) = true := ⟨by ktr_unf, by ktr_unf, by ktr_unf, by ktr_unf⟩
theorem me_LineView_is_narrow : plainGet (mkG w mg mb lo).K 213 (Str.ofString "is_narrow") = true ∧ findIn (mkG w mg mb lo).K (.ref 213) (Str.ofString "is_narrow") = some (some (.ref 210)) ∧ isFn (mkG w mg mb lo).K (.ref 210) = true ∧ keepIn (mkG w mg mb lo).K (.ref 210) = true := ⟨by ktr_unf, by ktr_unf, by ktr_unf, by ktr_unf⟩
theorem me_LineBreaks_opportunities : plainGet (mkG w mg mb lo).K 394 (Str.ofString "opportunities") = true ∧ findIn (mkG w mg mb lo).K (.ref 394) (Str.ofString "opportunities") = some (some (.ref 363)) ∧ isFn (mkG w mg mb lo).K (.ref 363) = true ∧ keepIn (mkG w mg mb lo).K (.ref 363) = true := ⟨by ktr_unf, by ktr_unf, by ktr_unf, by ktr_unf⟩
theorem me_LineBreaks_reasons : plainGet (mkG w mg mb lo).K 394 (Str.ofString "reasons") = true ∧ findIn (mkG w mg mb lo).K (.ref 394) (Str.ofString "reasons") = some (some (.ref 368)) ∧ isFn (mkG w mg mb lo).K (.ref 368) = true ∧ keepIn (mkG w mg mb lo).K (.ref 368) = true := ⟨by ktr_unf, by ktr_unf, by ktr_unf, by ktr_unf⟩
theorem me_RangeMap_get : plainGet (mkG w mg mb lo).K 450 (Str.ofString "get") = true ∧ findIn (mkG w mg mb lo).K (.ref 450) (Str.ofString "get") = some (some (.ref 426)) ∧ isFn (mkG w mg mb lo).K (.ref 426) = true ∧ keepIn (mkG w mg mb lo).K (.ref 426) = true := ⟨by ktr_unf, by ktr_unf, by ktr_unf, by ktr_unf⟩
theorem me_RangeMap_put : plainGet (mkG w mg mb lo).K 450 (Str.ofString "put") = true ∧ findIn (mkG w mg mb lo).K (.ref 450) (Str.ofString "put") = some (some (.ref 433)) ∧ isFn (mkG w mg mb lo).K (.ref 433) = true ∧ keepIn (mkG w mg mb lo).K (.ref 433) = true := ⟨by ktr_unf, by ktr_unf, by ktr_unf, by ktr_unf⟩
theorem me_Data_put : plainGet (mkG w mg mb lo).K 499 (Str.ofString "put") = true ∧ findIn (mkG w mg mb lo).K (.ref 499) (Str.ofString "put") = some (some (.ref 482)) ∧ isFn (mkG w mg mb lo).K (.ref 482) = true ∧ keepIn (mkG w mg mb lo).K (.ref 482) = true := ⟨by ktr_unf, by ktr_unf, by ktr_unf, by ktr_unf⟩
theorem me_Data_get : plainGet (mkG w mg mb lo).K 499 (Str.ofString "get") = true ∧ findIn (mkG w mg mb lo).K (.ref 499) (Str.ofString "get") = some (some (.ref 489)) ∧ isFn (mkG w mg mb lo).K (.ref 489) = true ∧ keepIn (mkG w mg mb lo).K (.ref 489) = true := ⟨by ktr_unf, by ktr_unf, by ktr_unf, by ktr_unf⟩
theorem me_Data_map_of : plainGet (mkG w mg mb lo).K 499 (Str.ofString "map_of") = true ∧ findIn (mkG w mg mb lo).K (.ref 499) (Str.ofString "map_of") = some (some (.ref 496)) ∧ isFn (mkG w mg mb lo).K (.ref 496) = true ∧ keepIn (mkG w mg mb lo).K (.ref 496) = true := ⟨by ktr_unf, by ktr_unf, by ktr_unf, by ktr_unf⟩
end

noncomputable abbrev ss (x : String) : D := .str (Str.ofString x)
structure Un where
  w : Str
  c : Int
  p : Int
  j : Bool
structure Vw where
  us : List Un
  solid : List Int
  regional : List Int
  numeric : List Bool
  strict : Str
  keep : Bool
  nums : Str
structure VA where
  v : Addr
  dv : Addr
  ho : Addr
  dh : Addr
  un : Addr
  so : Addr
  re : Addr
  nu : Addr
  da : Addr
  ua : List Addr
noncomputable def unitD (U : Un) : List (D × D) := [(ss "word", .str U.w), (ss "code", .int U.c), (ss "at", .int U.p), (ss "is_joined", .bool U.j)]
structure View (H : Hp) (A : VA) (V : Vw) : Prop where
  v : H A.v = some (.ins 213 A.dv)
  dv : H A.dv = some (.dct [(ss "data", .ref A.da), (ss "how", .ref A.ho), (ss "units", .ref A.un), (ss "solid", .ref A.so), (ss "regional", .ref A.re), (ss "numeric", .ref A.nu)])
  ho : H A.ho = some (.ins 122 A.dh)
  dh : H A.dh = some (.dct [(ss "strictness", .str V.strict), (ss "keep_all", .bool V.keep), (ss "numbers", .str V.nums)])
  un : H A.un = some (.lst (A.ua.map .ref))
  so : H A.so = some (.lst (V.solid.map .int))
  re : H A.re = some (.lst (V.regional.map .int))
  nu : H A.nu = some (.lst (V.numeric.map .bool))
  unit : ∀ (i : Nat) (u : Addr), A.ua[i]? = some u → ∃ du U, V.us[i]? = some U ∧ H u = some (.ins 157 du) ∧ H du = some (.dct (unitD U))
  len : A.ua.length = V.us.length
  lso : V.solid.length = V.us.length
  lre : V.regional.length = V.us.length
  lnu : V.numeric.length = V.us.length
  small : V.us.length ≤ 100
noncomputable def Vw.W (V : Vw) (p : Int) : Str := if 0 ≤ p ∧ p < V.us.length then (V.us[p.toNat]?.map Un.w).getD ⟨#[]⟩ else ⟨#[]⟩
noncomputable def Vw.C (V : Vw) (p : Int) : Int := (V.us[p.toNat]?.map Un.c).getD 0
noncomputable def Vw.S (V : Vw) (p : Int) : Int := (V.solid[p.toNat]?).getD 0
noncomputable abbrev MCall (env : Env) (o : Expr) (name : Str) (apos : Pos) (args : List Expr) (pos : Pos) (pl : Sem Bool) : Prop := eval (.Call (.Attribute o name apos) args [] pos) env = (do
      let ov ← eval o env
      standAt apos.atName
      let (f, first) ← holding [ov] (getMethod ov name pl)
      callWith pos f first (backTo pos (starEach args env)) [])
section
variable {w : World} {mg mb : Str → Option Value} {lo : Lo} {n : Nat} {H : Hp} {A : VA} {V : Vw}
theorem View.at {i : Nat} (hV : View H A V) (h : i < V.us.length) : ∃ u du U, (A.ua.map D.ref)[i]? = some (.ref u) ∧ V.us[i]? = some U ∧ H u = some (.ins 157 du) ∧ H du = some (.dct (unitD U)) := by
  have h' : i < A.ua.length := by rw [hV.len]; exact h
  obtain ⟨du, U, a, b, c⟩ := hV.unit i A.ua[i] (List.getElem?_eq_getElem h')
  exact ⟨_, du, U, by simp [h'], a, b, c⟩
local macro_rules | `(tactic| ktr_unf) => `(tactic| (dsimp only [mkG]; k_is))
theorem word_ok (hV : View H A V) (p : Int) : CalP (mkG w mg mb lo) (n + 2) H (.ref 189) [.ref A.v, .int p] (.str (V.W p)) := by
  have hs := hV.small
  have hl : (A.ua.map D.ref).length = V.us.length := by simp [hV.len]
  by_cases hp : 0 ≤ p ∧ p < V.us.length
  · obtain ⟨u, du, U, a, b, c, d⟩ := hV.at (i := p.toNat) (by one_sign)
    refine CalP.conv (d := .str U.w) ?_ (by unfold Vw.W; rw [if_pos hp, b]; rfl)
    refine CalP.fn (es := [.ref A.v, .int p]) [Str.ofString "self", Str.ofString "place"] (by ktr_unf) (by ktr_unf) (fun B T s vs k i => BindsTo.two (fun a b => rfl) i) (fun L hL => ?_)
    refine ExP.ret (EvP.conv (EvP.ifx (x := true) (d1 := .str U.w) (d2 := .str ⟨#[]⟩) ?_ (fun _ => ?_) (fun h => by cases h)) rfl)
    · have e : (decide (0 ≤ p) && decide (p < ((A.ua.map D.ref).length : Int))) = true := by simp [hV.len]; one_sign
      rw [← e]
      exact EvPB.chain2 EvP.cint (EvP.loc rfl) CmpP.lte (EvP.callB (id := "len") (by ktr_unf) rfl (EvPL.cons (EvP.attr (EvP.loc rfl) (gp_LineView_units hV.v hV.dv rfl)) EvPL.nil) (CalP.lenL hV.un (by one_sign))) CmpP.lt
    · exact EvP.attr (EvP.item (EvP.attr (EvP.loc rfl) (gp_LineView_units hV.v hV.dv rfl)) (EvP.loc rfl) (ItemP.lst hV.un hp.1 a (by one_sign))) (gp_LineUnit_word c d rfl)
  · refine CalP.conv (d := .str ⟨#[]⟩) ?_ (by simp [Vw.W, hp])
    refine CalP.fn (es := [.ref A.v, .int p]) [Str.ofString "self", Str.ofString "place"] (by ktr_unf) (by ktr_unf) (fun B T s vs k i => BindsTo.two (fun a b => rfl) i) (fun L hL => ?_)
    refine ExP.ret (EvP.conv (EvP.ifx (x := false) (d1 := .str ⟨#[]⟩) (d2 := .str ⟨#[]⟩) ?_ (fun h => by cases h) (fun _ => EvP.cstr)) rfl)
    have e : (decide (0 ≤ p) && decide (p < ((A.ua.map D.ref).length : Int))) = false := by rw [Bool.and_eq_false_iff]; simp [hV.len]; one_sign
    rw [← e]
    exact EvPB.chain2 EvP.cint (EvP.loc rfl) CmpP.lte (EvP.callB (id := "len") (by ktr_unf) rfl (EvPL.cons (EvP.attr (EvP.loc rfl) (gp_LineView_units hV.v hV.dv rfl)) EvPL.nil) (CalP.lenL hV.un (by one_sign))) CmpP.lt
theorem ev_word {env : Env} {m : Loc} {o e : Expr} {apos pos : Pos} {p : Int} (hV : View H A V) (h : EvP (mkG w mg mb lo) (n + 2) env m H o (.ref A.v)) (h4 : EvP (mkG w mg mb lo) (n + 2) env m H e (.int p))
    {pl : Sem Bool} (he : MCall env o (Str.ofString "word") apos [e] pos pl := by rfl) (hs : starEach (e :: []) env = (false, eval e env) :: starEach [] env := by rfl) : EvP (mkG w mg mb lo) (n + 2) env m H (.Call (.Attribute o (Str.ofString "word") apos) [e] [] pos) (.str (V.W p)) :=
  EvP.meth (C := 213) hV.v hV.dv rfl me_LineView_word.1 me_LineView_word.2.1 me_LineView_word.2.2.1 me_LineView_word.2.2.2 h (EvPL.cons h4 EvPL.nil hs) (word_ok hV p) he hs
theorem View.so_at (hV : View H A V) {p : Int} (h0 : 0 ≤ p) (h1 : p < V.us.length) : (V.solid.map D.int)[p.toNat]? = some (.int (V.S p)) := by
  have hp : p.toNat < V.solid.length := by rw [hV.lso]; one_sign
  unfold Vw.S; simp [hp]
theorem solid_word_ok (hV : View H A V) (p : Int) (h0 : 0 ≤ p) (h1 : p < V.us.length) : CalP (mkG w mg mb lo) (n + 3) H (.ref 196) [.ref A.v, .int p] (.str (V.W (V.S p))) := by
  have hs := hV.small
  have hl := hV.lso
  refine CalP.fn (es := [.ref A.v, .int p]) [Str.ofString "self", Str.ofString "place"] (by ktr_unf) (by ktr_unf) (fun B T s vs k i => BindsTo.two (fun a b => rfl) i) (fun L hL => ?_)
  exact ExP.ret (ev_word hV (EvP.loc rfl) (EvP.item (EvP.attr (EvP.loc rfl) (gp_LineView_solid hV.v hV.dv rfl)) (EvP.loc rfl) (ItemP.lst hV.so h0 (hV.so_at h0 h1) (by simp; one_sign))))
theorem ev_solid_word {env : Env} {m : Loc} {o e : Expr} {apos pos : Pos} {p : Int} (hV : View H A V) (h : EvP (mkG w mg mb lo) (n + 3) env m H o (.ref A.v)) (h4 : EvP (mkG w mg mb lo) (n + 3) env m H e (.int p)) (h0 : 0 ≤ p) (h1 : p < V.us.length)
    {pl : Sem Bool} (he : MCall env o (Str.ofString "solid_word") apos [e] pos pl := by rfl) (hs : starEach (e :: []) env = (false, eval e env) :: starEach [] env := by rfl) : EvP (mkG w mg mb lo) (n + 3) env m H (.Call (.Attribute o (Str.ofString "solid_word") apos) [e] [] pos) (.str (V.W (V.S p))) :=
  EvP.meth (C := 213) hV.v hV.dv rfl me_LineView_solid_word.1 me_LineView_solid_word.2.1 me_LineView_solid_word.2.2.1 me_LineView_solid_word.2.2.2 h (EvPL.cons h4 EvPL.nil hs) (solid_word_ok hV p h0 h1) he hs
end

local macro_rules | `(tactic| ktr_unf) => `(tactic| (dsimp only [mkG]; k_is))
local macro_rules | `(tactic| tb_rel) => `(tactic| ((show (_ : Prop)); first
  | ((show EvP _ _ _ _ _ _ _); first
    | exact EvP.loc rfl
    | exact EvP.cstr | exact EvP.cint | exact EvP.cnone | exact EvP.cbool
    | (refine' EvP.glob ?g1 ?g2; (case g1 => ktr_unf); (case g2 => (refine' IsTop.tup ?g3 ?g4; (case g3 => ktr_unf); (case g4 => rfl))))
    | (refine' EvP.tup ?g5 ?g6; (case g5 => tb_start); (case g6 => exact Nat.le_of_ble_eq_true rfl))
    | (refine' EvP.bin ?_ ?_ ?_)
    | (refine' EvP.ifx ?_ (fun _ => ?_) (fun _ => ?_))
    | (refine' ev_word ?h1 ?_ ?_; (case h1 => assumption))
    | (refine' ev_solid_word ?h1 ?_ ?_ ?_ ?_; (case h1 => assumption))
    | (refine' EvP.attr ?_ ?_)
    | (refine' EvP.item ?_ ?_ ?_)
    | (refine' EvP.cmp ?_ ?_ ?_) | (refine' EvP.one ?_) | (refine' EvP.and ?_ fun _ => ?_) | (refine' EvP.orB ?_ fun _ => ?_) | (refine' EvP.not ?_ ?_))
  | ((show ItemP _ _ _ _ _ _); first
    | exact ItemP.lst (View.un (by assumption)) (by one_sign) (by assumption) (by assumption)
    | exact ItemP.lst (View.so (by assumption)) (by one_sign) (View.so_at (by assumption) (by one_sign) (by one_sign)) (by assumption))
  | ((show TruP _ _ _ _ _); first | exact TruP.bool | exact TruP.int)
  | ((show EvPB _ _ _ _ _ _ _); first
    | (refine' EvPB.cmp ?_ ?_ ?_) | (refine' EvPB.and1 ?_) | (refine' EvPB.and ?_ fun _ => ?_) | (refine' EvPB.or1 ?_) | (refine' EvPB.or ?_ fun _ => ?_) | (refine' EvPB.not ?_) | (refine' EvPB.plain ?_ ?_))
  | ((show CmpP _ _ _ _ _ _ _); first
    | exact CmpP.eq | exact CmpP.ne | exact CmpP.inT | exact CmpP.ninT | exact CmpP.is | exact CmpP.isnot | exact CmpP.lt | exact CmpP.lte | exact CmpP.gt | exact CmpP.gte)
  | ((show ExP _ _ _ _ _ _ _); first | (refine' ExP.ret ?_) | (refine' ExP.iteR ?_ (fun _ => ?_) (fun _ => ?_)) | (refine' ExP.asg ?_ ?_) | (refine' ExP.asgS2 ?_ ?_) | (refine' ExP.asgS3 ?_ ?_))
  | ((show ExT _ _ _ _ _ _ _ _); first | (refine' ExT.nil ?_) | (refine' ExT.asg ?_ ?_) | (refine' ExT.iteR ?_ (fun _ => ?_) (fun _ => ?_)))
  | ((show EvPL _ _ _ _ _ _ _ _); first | exact EvPL.nil | (refine' EvPL.cons ?_ ?_))
  | ((show BinP _ _ _ _ _ _ _); first | exact BinP.add | exact BinP.sub)
  | ((show GetP _ _ _ _ _ _); first
    | exact gp_LineUnit_is_joined (by assumption) (by assumption) rfl
    | exact gp_LineUnit_code (by assumption) (by assumption) rfl
    | exact gp_LineUnit_word (by assumption) (by assumption) rfl
    | exact gp_LineView_how (View.v (by assumption)) (View.dv (by assumption)) rfl
    | exact gp_LineView_units (View.v (by assumption)) (View.dv (by assumption)) rfl
    | exact gp_LineView_solid (View.v (by assumption)) (View.dv (by assumption)) rfl
    | exact gp_LineHow_numbers (View.ho (by assumption)) (View.dh (by assumption)) rfl
    | exact gp_LineHow_strictness (View.ho (by assumption)) (View.dh (by assumption)) rfl
    | exact gp_LineHow_keep_all (View.ho (by assumption)) (View.dh (by assumption)) rfl)
  | (with_reducible show (_ : Int) ≤ _; one_sign) | (with_reducible show (_ : Int) < _; one_sign)))
local macro_rules | `(tactic| tb_start) => `(tactic| repeat' tb_rel)

local macro_rules | `(tactic| ktr_rel) => `(tactic| (repeat' first | exact lset_self | assumption | refine' lset_get (by decide) ?_))
-- the words of the rules
noncomputable def no (x : String) : D := .tup [ss "no", ss x]
noncomputable def may (x : String) : D := .tup [ss "may", ss x]
noncomputable def must (x : String) : D := .tup [ss "must", ss x]
noncomputable def is (a : Str) (x : String) : Bool := a == Str.ofString x
noncomputable def inl (a : Str) (l : List String) : Bool := l.any fun e => Str.ofString e == a
noncomputable abbrev HARD := ["BK", "CR", "LF", "NL"]
noncomputable abbrev INNER := ["NU", "SY", "IS"]
noncomputable abbrev ALPH := ["AL", "HL"]
noncomputable abbrev AFFIX := ["PR", "PO"]
noncomputable abbrev IDEO := ["ID", "EB", "EM"]
noncomputable abbrev SYLL := ["JL", "JV", "JT", "H2", "H3"]
noncomputable def rHard (a b : Str) : D := bif is a "BK" then must "LB4" else bif is a "CR" && is b "LF" then no "LB5" else bif inl a HARD then must "LB5" else bif inl b HARD then no "LB6" else .none
noncomputable def rSpaces (b s : Str) (j : Bool) : D := bif inl b ["SP", "ZW"] then no "LB7" else bif is s "ZW" then may "LB8" else bif j then no "LB8a" else .none
noncomputable def rGlue (a b : Str) : D := bif is a "WJ" || is b "WJ" then no "LB11" else bif is a "GL" then no "LB12" else bif is b "GL" && !inl a ["SP", "BA", "HY"] then no "LB12a" else .none
noncomputable def rClosing (a b s nums : Str) : D := bif inl b ["CL", "CP", "EX", "IS", "SY"] then (bif !(is nums "expression" && (!is b "EX" && is a "NU")) then no "LB13" else bif is s "OP" then no "LB14" else .none) else bif is s "OP" then no "LB14" else .none
noncomputable def rOver (a b s : Str) : D := bif inl s ["CL", "CP"] && is b "NS" then no "LB16" else bif is s "B2" && is b "B2" then no "LB17" else bif is a "SP" then may "LB18" else .none
noncomputable def rSigns (a b z strict : Str) : D := bif is a "QU" || is b "QU" then no "LB19" else bif is a "CB" || is b "CB" then may "LB20" else bif inl b ["BA", "HY", "NS"] || is a "BB" then no "LB21" else
  bif inl a ["HY", "BA"] && (is z "HL" && !is b "HL") then no "LB21a" else bif is a "SY" && is b "HL" then no "LB21b" else bif is b "IN" && !(is strict "loose" && is a "IN") then no "LB22" else .none
noncomputable def rLetters (a b : Str) : D := bif (inl a ALPH && is b "NU") || (is a "NU" && inl b ALPH) then no "LB23" else bif (is a "PR" && inl b IDEO) || (inl a IDEO && is b "PO") then no "LB23a" else
  bif (inl a AFFIX && inl b ALPH) || (inl a ALPH && inl b AFFIX) then no "LB24" else .none
section
variable {w : World} {mg mb : Str → Option Value} {lo : Lo} {n : Nat} {H : Hp} {A : VA} {V : Vw}

theorem rule_hard_ok (hV : View H A V) (p : Int) : CalP (mkG w mg mb lo) (n + 6) H (.ref 224) [.ref A.v, .int p] (rHard (V.W (p - 1)) (V.W p)) := by
  refine CalP.conv (d := ?d) ?hc ?he
  rotate_left
  case hc =>
    refine CalP.fn (es := [.ref A.v, .int p]) [Str.ofString "view", Str.ofString "at"] (by ktr_unf) (by ktr_unf) (fun B T s vs k i => BindsTo.two (fun a b => rfl) i) (fun L hL => ?_)
    tb_start
  rfl
theorem rule_glue_ok (hV : View H A V) (p : Int) : CalP (mkG w mg mb lo) (n + 6) H (.ref 238) [.ref A.v, .int p] (rGlue (V.W (p - 1)) (V.W p)) := by
  refine CalP.conv (d := ?d) ?hc ?he
  rotate_left
  case hc =>
    refine CalP.fn (es := [.ref A.v, .int p]) [Str.ofString "view", Str.ofString "at"] (by ktr_unf) (by ktr_unf) (fun B T s vs k i => BindsTo.two (fun a b => rfl) i) (fun L hL => ?_)
    tb_start
  rfl
theorem rule_letters_ok (hV : View H A V) (p : Int) : CalP (mkG w mg mb lo) (n + 6) H (.ref 273) [.ref A.v, .int p] (rLetters (V.W (p - 1)) (V.W p)) := by
  refine CalP.conv (d := ?d) ?hc ?he
  rotate_left
  case hc =>
    refine CalP.fn (es := [.ref A.v, .int p]) [Str.ofString "view", Str.ofString "at"] (by ktr_unf) (by ktr_unf) (fun B T s vs k i => BindsTo.two (fun a b => rfl) i) (fun L hL => ?_)
    tb_start
  rfl
theorem rule_over_ok (hV : View H A V) (p : Int) (h0 : 1 ≤ p) (h1 : p < V.us.length) : CalP (mkG w mg mb lo) (n + 6) H (.ref 259) [.ref A.v, .int p] (rOver (V.W (p - 1)) (V.W p) (V.W (V.S (p - 1)))) := by
  refine CalP.conv (d := ?d) ?hc ?he
  rotate_left
  case hc =>
    refine CalP.fn (es := [.ref A.v, .int p]) [Str.ofString "view", Str.ofString "at"] (by ktr_unf) (by ktr_unf) (fun B T s vs k i => BindsTo.two (fun a b => rfl) i) (fun L hL => ?_)
    tb_start
  rfl
theorem rule_signs_ok (hV : View H A V) (p : Int) : CalP (mkG w mg mb lo) (n + 6) H (.ref 266) [.ref A.v, .int p] (rSigns (V.W (p - 1)) (V.W p) (V.W (p - 2)) V.strict) := by
  refine CalP.conv (d := ?d) ?hc ?he
  rotate_left
  case hc =>
    refine CalP.fn (es := [.ref A.v, .int p]) [Str.ofString "view", Str.ofString "at"] (by ktr_unf) (by ktr_unf) (fun B T s vs k i => BindsTo.two (fun a b => rfl) i) (fun L hL => ?_)
    tb_start
  rfl
theorem View.len' (hV : View H A V) : (A.ua.map D.ref).length < 2 ^ 62 ∧ (V.solid.map D.int).length < 2 ^ 62 := by
  have := hV.small; have := hV.len; have := hV.lso
  simp; one_sign
noncomputable def Vw.J (V : Vw) (p : Int) : Bool := (V.us[p.toNat]?.map Un.j).getD false
theorem rule_spaces_ok (hV : View H A V) (p : Int) (h0 : 1 ≤ p) (h1 : p < V.us.length) : CalP (mkG w mg mb lo) (n + 6) H (.ref 231) [.ref A.v, .int p] (rSpaces (V.W p) (V.W (V.S (p - 1))) (V.J (p - 1))) := by
  obtain ⟨u, du, U, a, b, c, d⟩ := hV.at (i := (p - 1).toNat) (by one_sign)
  obtain ⟨l1, l2⟩ := hV.len'
  have e : V.J (p - 1) = U.j := by unfold Vw.J; rw [b]; rfl
  rw [e]
  refine CalP.conv (d := ?d) ?hc ?he
  rotate_left
  case hc =>
    refine CalP.fn (es := [.ref A.v, .int p]) [Str.ofString "view", Str.ofString "at"] (by ktr_unf) (by ktr_unf) (fun B T s vs k i => BindsTo.two (fun a b => rfl) i) (fun L hL => ?_)
    tb_start
  rfl
theorem rule_closing_ok (hV : View H A V) (p : Int) (h0 : 1 ≤ p) (h1 : p < V.us.length) : CalP (mkG w mg mb lo) (n + 6) H (.ref 245) [.ref A.v, .int p] (rClosing (V.W (p - 1)) (V.W p) (V.W (V.S (p - 1))) V.nums) := by
  refine CalP.conv (d := ?d) ?hc ?he
  rotate_left
  case hc =>
    refine CalP.fn (es := [.ref A.v, .int p]) [Str.ofString "view", Str.ofString "at"] (by ktr_unf) (by ktr_unf) (fun B T s vs k i => BindsTo.two (fun a b => rfl) i) (fun L hL => ?_)
    refine' ExP.asg ?x1 ?x2
    case x1 => tb_start
    case x2 =>
      refine' ExP.iteF ?x6 (fun _ => ?x7) (fun _ => ?x8)
      case x6 => tb_start
      case x7 => tb_start
      case x8 => tb_start
  rfl
end

structure DatOk (G : Gd) (n : Nat) (H : Hp) (da : Addr) (lb gc ea : Int → Str) : Prop where
  inst : ∃ dd l, H da = some (.ins 499 dd) ∧ H dd = some (.dct l) ∧ sget (Str.ofString "get") l = none
  lb : ∀ c, 0 ≤ c → CalP G n H (.ref 489) [.ref da, ss "lb", .int c] (.str (lb c))
  gc : ∀ c, 0 ≤ c → CalP G n H (.ref 489) [.ref da, ss "gc", .int c] (.str (gc c))
  ea : ∀ c, 0 ≤ c → CalP G n H (.ref 489) [.ref da, ss "ea", .int c] (.str (ea c))
noncomputable def Vw.codes (V : Vw) : Prop := ∀ U ∈ V.us, 0 ≤ U.c
noncomputable def Vw.N (V : Vw) : Int := V.us.length
noncomputable def Vw.Q (V : Vw) (gc : Int → Str) (p : Int) (k : Str) : Bool := is (V.W p) "QU" && gc (V.C p) == k
noncomputable def rQuotes (V : Vw) (gc : Int → Str) (p : Int) : D := bif V.Q gc (V.S (p - 1)) (Str.ofString "Pi") && (V.S (p - 1) == 0 || inl (V.W (V.S (p - 1) - 1)) ["BK", "CR", "LF", "NL", "OP", "QU", "GL", "SP", "ZW"]) then no "LB15a" else
  bif V.Q gc p (Str.ofString "Pf") && (p + 1 == V.N || inl (V.W (p + 1)) ["SP", "GL", "WJ", "CL", "QU", "CP", "EX", "IS", "SY", "BK", "CR", "LF", "NL", "ZW"]) then no "LB15b" else .none
noncomputable def Vw.nar (V : Vw) (ea : Int → Str) (p : Int) : Bool := !inl (ea (V.C p)) ["F", "W", "H"]
noncomputable def rBrackets (V : Vw) (ea : Int → Str) (p : Int) : D := bif is (V.W (p - 1)) "IS" && inl (V.W p) ALPH then no "LB29" else
  bif (inl (V.W (p - 1)) ALPH || is (V.W (p - 1)) "NU") && (is (V.W p) "OP" && V.nar ea p) then no "LB30" else
  bif is (V.W (p - 1)) "CP" && ((inl (V.W p) ALPH || is (V.W p) "NU") && V.nar ea (p - 1)) then no "LB30" else .none
section
variable {w : World} {mg mb : Str → Option Value} {lo : Lo} {n : Nat} {H : Hp} {A : VA} {V : Vw} {lb gc ea : Int → Str}

theorem ev_get {env : Env} {m : Loc} {o e e2 : Expr} {apos pos : Pos} {c x d : D} (hD : DatOk (mkG w mg mb lo) (n + 3) H A.da lb gc ea) (hc : CalP (mkG w mg mb lo) (n + 3) H (.ref 489) [.ref A.da, x, c] d) (h : EvP (mkG w mg mb lo) (n + 3) env m H o (.ref A.da)) (h1 : EvP (mkG w mg mb lo) (n + 3) env m H e x) (h4 : EvP (mkG w mg mb lo) (n + 3) env m H e2 c)
    {pl : Sem Bool} (he : MCall env o (Str.ofString "get") apos [e, e2] pos pl := by rfl) (hs : starEach (e :: [e2]) env = (false, eval e env) :: starEach [e2] env := by rfl) (hs2 : starEach (e2 :: []) env = (false, eval e2 env) :: starEach [] env := by rfl) (hp : (backTo pos (starEach [e2] env)).any (·.1) = false := by rfl) :
    EvP (mkG w mg mb lo) (n + 3) env m H (.Call (.Attribute o (Str.ofString "get") apos) [e, e2] [] pos) d := by
  obtain ⟨dd, l, a, b, z⟩ := hD.inst
  exact EvP.meth (C := 499) a b z me_Data_get.1 me_Data_get.2.1 me_Data_get.2.2.1 me_Data_get.2.2.2 h (EvPL.cons h1 (EvPL.cons h4 EvPL.nil hs2) hs) hc he hs hp
theorem View.C_at (hV : View H A V) {p : Int} (h0 : 0 ≤ p) (h1 : p < V.us.length) : ∃ u du U, (A.ua.map D.ref)[p.toNat]? = some (.ref u) ∧ V.us[p.toNat]? = some U ∧ H u = some (.ins 157 du) ∧ H du = some (.dct (unitD U)) ∧ V.C p = U.c ∧ V.W p = U.w := by
  obtain ⟨u, du, U, a, b, c, d⟩ := hV.at (i := p.toNat) (by one_sign)
  exact ⟨u, du, U, a, b, c, d, by unfold Vw.C; rw [b]; rfl, by unfold Vw.W; rw [if_pos ⟨h0, h1⟩, b]; rfl⟩
theorem W_out {p : Int} (h : ¬ (0 ≤ p ∧ p < V.us.length)) : V.W p = ⟨#[]⟩ := by unfold Vw.W; rw [if_neg h]
theorem is_quote_ok (hV : View H A V) (hD : DatOk (mkG w mg mb lo) (n + 3) H A.da lb gc ea) (hc : V.codes) (p : Int) (k : Str) : CalP (mkG w mg mb lo) (n + 4) H (.ref 203) [.ref A.v, .int p, .str k] (.bool (V.Q gc p k)) := by
  obtain ⟨l1, l2⟩ := hV.len'
  by_cases hp : 0 ≤ p ∧ p < V.us.length
  · have h0 := hp.1
    obtain ⟨u, du, U, a, b, c, d, e1, e2⟩ := hV.C_at hp.1 hp.2
    have hU : 0 ≤ U.c := hc U (List.mem_of_getElem? b)
    refine CalP.conv (d := ?d) ?hc ?he
    rotate_left
    case hc =>
      refine CalP.fn (es := [.ref A.v, .int p, .str k]) [Str.ofString "self", Str.ofString "place", Str.ofString "kind"] (by ktr_unf) (by ktr_unf) (fun B T s vs k i => BindsTo.three (fun a b c => rfl) i) (fun L hL => ?_)
      refine' ExP.ret ?x1
      case x1 =>
        refine' EvP.and ?x2 (fun _ => ?x3)
        case x2 => tb_start
        case x3 =>
          refine' EvP.one ?x4
          case x4 =>
            refine' EvP.cmp ?x5 ?x6 ?x7
            case x5 =>
              refine' ev_get hD (hD.gc U.c hU) ?y1 ?y2 ?y3
              case y1 => exact EvP.attr (EvP.loc rfl) (gp_LineView_data hV.v hV.dv rfl)
              case y2 => tb_start
              case y3 => tb_start
            case x6 => tb_start
            case x7 => exact CmpP.eq
    unfold Vw.Q; rw [e1]; rfl
  · refine CalP.conv (d := .bool (false && false)) ?_ (by unfold Vw.Q; rw [W_out hp]; rfl)
    refine CalP.fn (es := [.ref A.v, .int p, .str k]) [Str.ofString "self", Str.ofString "place", Str.ofString "kind"] (by ktr_unf) (by ktr_unf) (fun B T s vs k i => BindsTo.three (fun a b c => rfl) i) (fun L hL => ?_)
    refine ExP.ret (EvP.and (a := false) (b := false) ?_ (fun h => by cases h))
    refine EvP.conv (d := .bool (deq (.str (V.W p)) (.str (Str.ofString "QU")))) ?_ (by rw [W_out hp]; rfl)
    tb_start
theorem is_narrow_ok (hV : View H A V) (hD : DatOk (mkG w mg mb lo) (n + 3) H A.da lb gc ea) (hc : V.codes) (p : Int) (h0 : 0 ≤ p) (h1 : p < V.us.length) : CalP (mkG w mg mb lo) (n + 4) H (.ref 210) [.ref A.v, .int p] (.bool (V.nar ea p)) := by
  obtain ⟨l1, l2⟩ := hV.len'
  obtain ⟨u, du, U, a, b, c, d, e1, e2⟩ := hV.C_at h0 h1
  have hU : 0 ≤ U.c := hc U (List.mem_of_getElem? b)
  refine CalP.conv (d := ?d) ?hc ?he
  rotate_left
  case hc =>
    refine CalP.fn (es := [.ref A.v, .int p]) [Str.ofString "self", Str.ofString "place"] (by ktr_unf) (by ktr_unf) (fun B T s vs k i => BindsTo.two (fun a b => rfl) i) (fun L hL => ?_)
    refine' ExP.ret ?x1
    case x1 =>
      refine' EvP.cmp ?x5 ?x6 ?x7
      case x5 =>
        refine' ev_get hD (hD.ea U.c hU) ?y1 ?y2 ?y3
        case y1 => exact EvP.attr (EvP.loc rfl) (gp_LineView_data hV.v hV.dv rfl)
        case y2 => tb_start
        case y3 => tb_start
      case x6 => tb_start
      case x7 => exact CmpP.ninT
  unfold Vw.nar; rw [e1]; rfl
theorem ev_quote {k' : Nat} {env : Env} {m : Loc} {o e e2 : Expr} {apos pos : Pos} {p : Int} {k : Str} (hV : View H A V) (hD : DatOk (mkG w mg mb lo) (n + 3) H A.da lb gc ea) (hc : V.codes) (hk : n + 4 ≤ k') (h : EvP (mkG w mg mb lo) k' env m H o (.ref A.v)) (h4 : EvP (mkG w mg mb lo) k' env m H e (.int p)) (h5 : EvP (mkG w mg mb lo) k' env m H e2 (.str k))
    {pl : Sem Bool} (he : MCall env o (Str.ofString "is_quote") apos [e, e2] pos pl := by rfl) (hs : starEach (e :: [e2]) env = (false, eval e env) :: starEach [e2] env := by rfl) (hs2 : starEach (e2 :: []) env = (false, eval e2 env) :: starEach [] env := by rfl) (hp : (backTo pos (starEach [e2] env)).any (·.1) = false := by rfl) :
    EvP (mkG w mg mb lo) k' env m H (.Call (.Attribute o (Str.ofString "is_quote") apos) [e, e2] [] pos) (.bool (V.Q gc p k)) :=
  EvP.meth (C := 213) hV.v hV.dv rfl me_LineView_is_quote.1 me_LineView_is_quote.2.1 me_LineView_is_quote.2.2.1 me_LineView_is_quote.2.2.2 h (EvPL.cons h4 (EvPL.cons h5 EvPL.nil hs2) hs) ((is_quote_ok hV hD hc p k).le hk) he hs hp
theorem ev_narrow {k' : Nat} {env : Env} {m : Loc} {o e : Expr} {apos pos : Pos} {p : Int} (hV : View H A V) (hD : DatOk (mkG w mg mb lo) (n + 3) H A.da lb gc ea) (hc : V.codes) (hk : n + 4 ≤ k') (h : EvP (mkG w mg mb lo) k' env m H o (.ref A.v)) (h4 : EvP (mkG w mg mb lo) k' env m H e (.int p)) (h0 : 0 ≤ p) (h1 : p < V.us.length)
    {pl : Sem Bool} (he : MCall env o (Str.ofString "is_narrow") apos [e] pos pl := by rfl) (hs : starEach (e :: []) env = (false, eval e env) :: starEach [] env := by rfl) :
    EvP (mkG w mg mb lo) k' env m H (.Call (.Attribute o (Str.ofString "is_narrow") apos) [e] [] pos) (.bool (V.nar ea p)) :=
  EvP.meth (C := 213) hV.v hV.dv rfl me_LineView_is_narrow.1 me_LineView_is_narrow.2.1 me_LineView_is_narrow.2.2.1 me_LineView_is_narrow.2.2.2 h (EvPL.cons h4 EvPL.nil hs) ((is_narrow_ok hV hD hc p h0 h1).le hk) he hs
local macro_rules | `(tactic| tb_rel) => `(tactic| ((show EvP _ _ _ _ _ _ _); first
    | (refine' ev_quote ?h1 ?h2 ?h3 ?h4 ?_ ?_ ?_; (case h1 => assumption); (case h2 => assumption); (case h3 => assumption); (case h4 => one_sign))
    | (refine' ev_narrow ?h1 ?h2 ?h3 ?h4 ?_ ?_ ?_ ?_; (case h1 => assumption); (case h2 => assumption); (case h3 => assumption); (case h4 => one_sign))
    | (refine' EvP.callB (id := "len") ?g1 ?g2 ?_ ?_; (case g1 => ktr_unf); (case g2 => rfl))))
local macro_rules | `(tactic| tb_rel) => `(tactic| ((show CalP _ _ _ _ _ _); exact CalP.lenL (View.un (by assumption)) (by assumption)))
theorem rule_quotes_ok (hV : View H A V) (hD : DatOk (mkG w mg mb lo) (n + 3) H A.da lb gc ea) (hc : V.codes) (p : Int) (h0 : 1 ≤ p) (h1 : p < V.us.length) : CalP (mkG w mg mb lo) (n + 6) H (.ref 252) [.ref A.v, .int p] (rQuotes V gc p) := by
  obtain ⟨l1, l2⟩ := hV.len'
  refine CalP.conv (d := ?d) ?hc ?he
  rotate_left
  case hc =>
    refine CalP.fn (es := [.ref A.v, .int p]) [Str.ofString "view", Str.ofString "at"] (by ktr_unf) (by ktr_unf) (fun B T s vs k i => BindsTo.two (fun a b => rfl) i) (fun L hL => ?_)
    tb_start
  unfold rQuotes Vw.N
  rw [show ((A.ua.map D.ref).length : Int) = (V.us.length : Int) by rw [List.length_map, hV.len]]
  rfl
theorem rule_brackets_ok (hV : View H A V) (hD : DatOk (mkG w mg mb lo) (n + 3) H A.da lb gc ea) (hc : V.codes) (p : Int) (h0 : 1 ≤ p) (h1 : p < V.us.length) : CalP (mkG w mg mb lo) (n + 6) H (.ref 322) [.ref A.v, .int p] (rBrackets V ea p) := by
  refine CalP.conv (d := ?d) ?hc ?he
  rotate_left
  case hc =>
    refine CalP.fn (es := [.ref A.v, .int p]) [Str.ofString "view", Str.ofString "at"] (by ktr_unf) (by ktr_unf) (fun B T s vs k i => BindsTo.two (fun a b => rfl) i) (fun L hL => ?_)
    tb_start
  rfl
end

noncomputable def Vw.Nm (V : Vw) (p : Int) : Bool := (V.numeric[p.toNat]?).getD false
noncomputable def Vw.isNum (V : Vw) (p : Int) : Bool := decide (p ≥ 0) && V.Nm p
noncomputable def numsT : List D := [("CL", "PO"), ("CP", "PO"), ("CL", "PR"), ("CP", "PR"), ("NU", "PO"), ("NU", "PR"), ("PO", "OP"), ("PO", "NU"), ("PR", "OP"), ("PR", "NU"), ("HY", "NU"), ("IS", "NU"), ("NU", "NU"), ("SY", "NU")].map fun p => .tup [ss p.1, ss p.2]
noncomputable def rExpr (V : Vw) (p : Int) : D :=
  let a := V.W (p - 1)
  let b := V.W p
  bif inl a AFFIX && (is b "NU" || (inl b ["OP", "HY"] && is (V.W (p + 1)) "NU")) || (inl a ["OP", "HY"] && is b "NU") then no "LB25" else
  bif inl b INNER || inl b ["CL", "CP"] then (bif V.isNum (p - 1) then no "LB25" else .none) else
  bif inl b AFFIX then (bif V.isNum (bif inl a ["CL", "CP"] then p - 2 else p - 1) then no "LB25" else .none) else .none
noncomputable def rNumbers (V : Vw) (p : Int) : D := bif is V.nums "expression" then rExpr V p else bif numsT.any (fun e => deq e (.tup [.str (V.W (p - 1)), .str (V.W p)])) then no "LB25" else .none
noncomputable def Vw.ak (V : Vw) (p : Int) (l : List String) : Bool := bif !(decide (0 ≤ p) && decide (p < V.N)) then false else inl (V.W p) l || V.C p == 9676
noncomputable def rAksaras (V : Vw) (p : Int) : D :=
  let a := V.W (p - 1)
  let b := V.W p
  let l := V.ak (p - 1) ["AK", "AS"]
  let r := V.ak p ["AK", "AS"]
  bif ((is a "AP" && r || l && inl b ["VF", "VI"]) || (is a "VI" && (V.ak (p - 2) ["AK", "AS"] && V.ak p ["AK"]))) || (l && (r && is (V.W (p + 1)) "VF")) then no "LB28a" else .none
noncomputable def rSyll (a b : Str) : D := bif inl a SYLL && is b "PO" || (is a "PR" && inl b SYLL) then no "LB27" else bif inl a ALPH && inl b ALPH then no "LB28" else .none
noncomputable def rPict (a b : Str) (keep : Bool) : D := bif keep && (inl a ["AL", "HL", "ID", "NU", "JL", "JV", "JT", "H2", "H3"] && inl b ["AL", "HL", "ID", "NU", "JL", "JV", "JT", "H2", "H3"]) then no "keep-all" else .none
section
variable {w : World} {mg mb : Str → Option Value} {lo : Lo} {n : Nat} {H : Hp} {A : VA} {V : Vw} {lb gc ea : Int → Str}

theorem View.nu_at (hV : View H A V) {p : Int} (h0 : 0 ≤ p) (h1 : p < V.us.length) : (V.numeric.map D.bool)[p.toNat]? = some (.bool (V.Nm p)) := by
  have hp : p.toNat < V.numeric.length := by rw [hV.lnu]; one_sign
  unfold Vw.Nm; simp [hp]
theorem is_number_ok (hV : View H A V) (p : Int) (h1 : p < V.us.length) : CalP (mkG w mg mb lo) (n + 1) H (.ref 280) [.ref A.v, .int p] (.bool (V.isNum p)) := by
  have hs := hV.small
  have hl := hV.lnu
  refine CalP.fn (es := [.ref A.v, .int p]) [Str.ofString "view", Str.ofString "place"] (by ktr_unf) (by ktr_unf) (fun B T s vs k i => BindsTo.two (fun a b => rfl) i) (fun L hL => ?_)
  refine ExP.ret (EvP.and (EvP.cmp (EvP.loc rfl) EvP.cint CmpP.gte) (fun h => EvP.one ?_))
  have h0 : 0 ≤ p := of_decide_eq_true h
  exact EvP.item (EvP.attr (EvP.loc rfl) (gp_LineView_numeric hV.v hV.dv rfl)) (EvP.loc rfl) (ItemP.lst hV.nu h0 (hV.nu_at h0 h1) (by simp; one_sign))
theorem is_aksara_ok (hV : View H A V) (p : Int) (l : List String) : CalP (mkG w mg mb lo) (n + 2) H (.ref 308) [.ref A.v, .int p, .tup (l.map ss)] (.bool (V.ak p l)) := by
  obtain ⟨l1, l2⟩ := hV.len'
  have hN : ((A.ua.map D.ref).length : Int) = V.N := by unfold Vw.N; rw [List.length_map, hV.len]
  have dk : ∀ (l : List String) (x : Str), ((l.map ss).all fun e => Mine.dk e (.str x)) = true := fun l x => by
    rw [List.all_eq_true]; intro e he
    obtain ⟨y, _, rfl⟩ := List.mem_map.mp he; rfl
  have any : ∀ (x : Str), ((l.map ss).any fun e => deq e (.str x)) = inl x l := fun x => by unfold inl; rw [List.any_map]; rfl
  by_cases hp : 0 ≤ p ∧ p < V.us.length
  · obtain ⟨u, du, U, a, b, c, d, e1, e2⟩ := hV.C_at hp.1 hp.2
    have h0 := hp.1
    have e : (!(decide (0 ≤ p) && decide (p < V.N))) = false := by unfold Vw.N; simp [hp]
    refine CalP.conv (d := bif (!(decide (0 ≤ p) && decide (p < ((A.ua.map D.ref).length : Int)))) then .bool false else .bool (((l.map ss).any fun e => deq e (.str U.w)) || deq (.int U.c) (.int 9676))) ?_ (by rw [hN, any]; unfold Vw.ak; rw [e, e1, e2]; rfl)
    refine CalP.fn (es := [.ref A.v, .int p, .tup (l.map ss)]) [Str.ofString "view", Str.ofString "place", Str.ofString "words"] (by ktr_unf) (by ktr_unf) (fun B T s vs k i => BindsTo.three (fun a b c => rfl) i) (fun L hL => ?_)
    refine ExP.iteR (EvPB.not (EvPB.chain2 EvP.cint (EvP.loc rfl) CmpP.lte (EvP.callB (id := "len") (by ktr_unf) rfl (EvPL.cons (EvP.attr (EvP.loc rfl) (gp_LineView_units hV.v hV.dv rfl)) EvPL.nil) (CalP.lenL hV.un l1)) CmpP.lt)) (fun _ => ExP.ret EvP.cbool) (fun _ => ExP.ret (EvP.orB (EvP.cmp ?_ (EvP.loc rfl) (CmpP.inT (dk l _))) fun _ => EvP.one (EvP.cmp ?_ (EvP.glob (v := .int 9676 _) (by ktr_unf) (IsTop.s rfl)) CmpP.eq)))
    · exact EvP.attr (EvP.item (EvP.attr (EvP.loc rfl) (gp_LineView_units hV.v hV.dv rfl)) (EvP.loc rfl) (ItemP.lst hV.un hp.1 a l1)) (gp_LineUnit_word c d rfl)
    · exact EvP.attr (EvP.item (EvP.attr (EvP.loc rfl) (gp_LineView_units hV.v hV.dv rfl)) (EvP.loc rfl) (ItemP.lst hV.un hp.1 a l1)) (gp_LineUnit_code c d rfl)
  · have e : (!(decide (0 ≤ p) && decide (p < V.N))) = true := by
      unfold Vw.N; rw [Bool.not_eq_true', Bool.and_eq_false_iff]; simp; one_sign
    refine CalP.conv (d := bif (!(decide (0 ≤ p) && decide (p < ((A.ua.map D.ref).length : Int)))) then .bool false else .bool false) ?_ (by rw [hN]; unfold Vw.ak; rw [e]; rfl)
    refine CalP.fn (es := [.ref A.v, .int p, .tup (l.map ss)]) [Str.ofString "view", Str.ofString "place", Str.ofString "words"] (by ktr_unf) (by ktr_unf) (fun B T s vs k i => BindsTo.three (fun a b c => rfl) i) (fun L hL => ?_)
    refine ExP.iteR (EvPB.not (EvPB.chain2 EvP.cint (EvP.loc rfl) CmpP.lte (EvP.callB (id := "len") (by ktr_unf) rfl (EvPL.cons (EvP.attr (EvP.loc rfl) (gp_LineView_units hV.v hV.dv rfl)) EvPL.nil) (CalP.lenL hV.un l1)) CmpP.lt)) (fun _ => ExP.ret EvP.cbool) (fun h => absurd h (by rw [hN, e]; simp))
local macro_rules | `(tactic| tb_rel) => `(tactic| ((show EvP _ _ _ _ _ _ _); (refine' EvP.callD ?g1 ?g2 ?_ ?_; (case g2 => (refine' EvP.glob ?g3 ?g4; (case g3 => ktr_unf); (case g4 => exact IsTop.ref))); (case g1 => ktr_unf))))
local macro_rules | `(tactic| tb_rel) => `(tactic| ((show CalP _ _ _ _ _ _); first | exact is_number_ok (by assumption) _ (by one_sign) | exact is_aksara_ok (by assumption) _ ["AK", "AS"] | exact is_aksara_ok (by assumption) _ ["AK"]))
theorem rule_aksaras_ok (hV : View H A V) (p : Int) : CalP (mkG w mg mb lo) (n + 6) H (.ref 315) [.ref A.v, .int p] (rAksaras V p) := by
  refine CalP.conv (d := ?d) ?hc ?he
  rotate_left
  case hc =>
    refine CalP.fn (es := [.ref A.v, .int p]) [Str.ofString "view", Str.ofString "at"] (by ktr_unf) (by ktr_unf) (fun B T s vs k i => BindsTo.two (fun a b => rfl) i) (fun L hL => ?_)
    tb_start
  rfl
theorem rule_expression_ok (hV : View H A V) (p : Int) (h0 : 1 ≤ p) (h1 : p < V.us.length) : CalP (mkG w mg mb lo) (n + 6) H (.ref 287) [.ref A.v, .int p] (rExpr V p) := by
  have e1 : ∀ c : Bool, (bif c then p - 2 else p - 1) < V.us.length := fun c => by cases c <;> simp <;> one_sign
  refine CalP.conv (d := ?d) ?hc ?he
  rotate_left
  case hc =>
    refine CalP.fn (es := [.ref A.v, .int p]) [Str.ofString "view", Str.ofString "at"] (by ktr_unf) (by ktr_unf) (fun B T s vs k i => BindsTo.two (fun a b => rfl) i) (fun L hL => ?_)
    refine' ExP.asgS2 ?a1 ?a2
    case a1 => tb_start
    case a2 =>
      refine' ExP.asg ?b1 ?b2
      case b1 => tb_start
      case b2 =>
        refine' ExP.iteR ?c1 (fun _ => ?c2) (fun _ => ?c3)
        case c1 => tb_start
        case c2 => tb_start
        case c3 =>
          refine' ExP.iteR ?d1 (fun _ => ?d2) (fun _ => ?d3)
          case d1 => tb_start
          case d2 => tb_start
          case d3 =>
            refine' ExP.iteR ?g1 (fun _ => ?g2) (fun _ => ?g3)
            case g1 => tb_start
            case g3 => tb_start
            case g2 =>
              refine' ExP.asg (EvP.ifxI ?f1 (fun _ => ?f2) (fun _ => ?f3)) ?f4
              case f1 => tb_start
              case f2 => tb_start
              case f3 => tb_start
              case f4 =>
                refine' ExP.ret (EvP.ifx (EvPB.plain (EvP.callD (f := 280) (by ktr_unf) (EvP.glob (by ktr_unf) IsTop.ref) (EvPL.cons (EvP.loc rfl) (EvPL.cons (EvP.loc rfl) EvPL.nil)) (is_number_ok hV _ (e1 _))) TruP.bool) (fun _ => ?h1) (fun _ => ?h2))
                case h1 => tb_start
                case h2 => tb_start
  rfl
end

noncomputable def vOr (x y : D) : D := bif truth x then x else y
theorem ntl_bif {c : Bool} {x y : D} (a : ntl x = true) (b : ntl y = true) : ntl (bif c then x else y) = true := by cases c <;> assumption
noncomputable def verdict (V : Vw) (gc ea : Int → Str) (p : Int) : D :=
  let a := V.W (p - 1)
  let b := V.W p
  let s := V.W (V.S (p - 1))
  vOr (vOr (vOr (vOr (vOr (rHard a b) (vOr (rSpaces b s (V.J (p - 1))) (rGlue a b))) (vOr (rClosing a b s V.nums) (vOr (rQuotes V gc p) (rOver a b s)))) (vOr (rSigns a b (V.W (p - 2)) V.strict) (vOr (rLetters a b) (rNumbers V p)))) (vOr (rSyll a b) (vOr (rAksaras V p) (rBrackets V ea p)))) (vOr (rPict a b V.keep) (may "LB31"))
section
variable {w : World} {mg mb : Str → Option Value} {lo : Lo} {n : Nat} {H : Hp} {A : VA} {V : Vw} {lb gc ea : Int → Str}

local macro_rules | `(tactic| tb_rel) => `(tactic| first | ((show EvP _ _ _ _ _ _ _); (refine' EvP.callD ?g1 ?g2 ?_ ?_; (case g2 => (refine' EvP.glob ?g3 ?g4; (case g3 => ktr_unf); (case g4 => exact IsTop.ref))); (case g1 => ktr_unf))))
local macro_rules | `(tactic| tb_rel) => `(tactic| first | ((show EvP _ _ _ _ _ _ _); (first | exact EvP.loc rfl | (refine' EvP.glob ?g3 ?g4; (case g3 => ktr_unf); (case g4 => (refine' IsTop.tupL ?g1 ?g2; (case g1 => ktr_unf); (case g2 => tb_start)))))))
local macro_rules | `(tactic| tb_rel) => `(tactic| ((show IsTopL _ _ _); first | exact IsTopL.nil | (refine' IsTopL.cons ?_ ?_)))
local macro_rules | `(tactic| tb_rel) => `(tactic| first | ((show IsTop _ _ _); exact IsTop.s rfl) | ((show IsTop _ _ _); (refine' IsTop.tup ?c ?d; (case c => ktr_unf); (case d => rfl))))
local macro_rules | `(tactic| tb_rel) => `(tactic| first | ((show CalP _ _ _ _ _ _); exact rule_expression_ok (by assumption) _ (by assumption) (by assumption)))
theorem rule_numbers_ok (hV : View H A V) (p : Int) (h0 : 1 ≤ p) (h1 : p < V.us.length) : CalP (mkG w mg mb lo) (n + 7) H (.ref 294) [.ref A.v, .int p] (rNumbers V p) := by
  refine CalP.conv (d := ?d) ?hc ?he
  rotate_left
  case hc =>
    refine CalP.fn (es := [.ref A.v, .int p]) [Str.ofString "view", Str.ofString "at"] (by ktr_unf) (by ktr_unf) (fun B T s vs k i => BindsTo.two (fun a b => rfl) i) (fun L hL => ?_)
    tb_start
  rfl
theorem EvP.methB {env : Env} {m : Loc} {G : Gd} {o e : Expr} {name : Str} {apos : Pos} {rest : List Expr} {pos : Pos} {T id : String} {a : Addr} {ds : List D} {d : D} {pl : Sem Bool} (pa : PlainAttrs T) (slot : Slot T name id) (hty : typeOf (.builtin id) = pure (.type "method_descriptor"))
    (h : EvP G n env m H o (.ref a)) (there : ∀ B h, TopOk G B → Sat G B (H.set env.locals (.ns m)) h → ∃ ob, h.get? a = some ob ∧ ob.cls = .type T ∧ ob.dict = none) (h2 : EvPL G n env m H pos (e :: rest) ds) (h3 : CalP G n H (.builtin id) (.ref a :: ds) d)
    (he : MCall env o name apos (e :: rest) pos pl := by rfl) (hs : starEach (e :: rest) env = (false, eval e env) :: starEach rest env := by rfl) (hp : (backTo pos (starEach rest env)).any (·.1) = false := by rfl) :
    EvP G n env m H (.Call (.Attribute o name apos) (e :: rest) [] pos) d := ⟨Ev.methB pa slot hty (h.to ⟨a, rfl, there, h2.to h3.h⟩) he hs hp⟩
theorem top_thereT {env : Env} {m : Loc} {G : Gd} {a : Addr} {T : String} {dt : Data} {sl : Array (Option Value)} (ho : G.K.lookup a = some ⟨.type T, none, dt, sl⟩) : ∀ B h, TopOk G B → Sat G B (H.set env.locals (.ns m)) h → ∃ ob, h.get? a = some ob ∧ ob.cls = .type T ∧ ob.dict = none :=
  fun B h T' S => ⟨_, S.keep _ _ (T'.k _ _ ho), rfl, rfl⟩
noncomputable def jamo (a : Str) : Bool := inl a ["JL", "JV", "H2", "JT", "H3"]
theorem jamo_get {a : Str} (h : jamo a = false) (x1 x2 x3 x4 x5 : D) : kget (.inl a) [(ss "JL", x1), (ss "JV", x2), (ss "H2", x3), (ss "JT", x4), (ss "H3", x5)] = none := by
  unfold jamo inl at h
  simp only [List.any_cons, List.any_nil, Bool.or_eq_false_iff, beq_eq_false_iff_ne] at h
  simp [kget, kt, h]
theorem rule_syllables_ok (hV : View H A V) (p : Int) (hj : jamo (V.W (p - 1)) = false) : CalP (mkG w mg mb lo) (n + 6) H (.ref 301) [.ref A.v, .int p] (rSyll (V.W (p - 1)) (V.W p)) := by
  refine CalP.conv (d := ?d) ?hc ?he
  rotate_left
  case hc =>
    refine CalP.fn (es := [.ref A.v, .int p]) [Str.ofString "view", Str.ofString "at"] (by ktr_unf) (by ktr_unf) (fun B T s vs k i => BindsTo.two (fun a b => rfl) i) (fun L hL => ?_)
    refine' ExP.asgS2 ?a1 ?a2
    case a1 => tb_start
    case a2 =>
      refine' ExP.iteR (x := false) (d1 := .none) ?b1 (fun h => by cases h) (fun _ => ?b3)
      case b3 => tb_start
      case b1 =>
        refine' EvPB.cmp (d2 := .tup []) (EvP.loc rfl) ?c1 CmpP.inT
        case c1 =>
          refine' EvP.methB (T := "dict") (id := "dict.get") PySem.F.plainAttrs_dict PySem.F.slot_dict_get PySem.F.type_dict_get ?f1 ?f2 (EvPL.cons (EvP.loc rfl) (EvPL.cons (EvP.tup EvPL.nil) EvPL.nil)) ?f3
          case f1 => exact EvP.glob (by ktr_unf) IsTop.ref
          case f2 => exact top_thereT (by ktr_unf)
          case f3 =>
            refine' ⟨Cal.dget2 (k := .inl _) (DctAt.top ?g1 ?g2 (by decide)) ⟨?g3, rfl⟩⟩
            case g1 => ktr_unf
            case g2 => exact EntTop.str (IsTop.tup (by ktr_unf) rfl) (EntTop.str (IsTop.tup (by ktr_unf) rfl) (EntTop.str (IsTop.tup (by ktr_unf) rfl) (EntTop.str (IsTop.tup (by ktr_unf) rfl) (EntTop.str (IsTop.tup (by ktr_unf) rfl) EntTop.nil))))
            case g3 => exact (congrArg (Option.getD · _) (jamo_get hj _ _ _ _ _))
  rfl
theorem rule_pictures_ok (hV : View H A V) (p : Int) (hE : is (V.W p) "EM" = false) (hR : is (V.W (p - 1)) "RI" = false) : CalP (mkG w mg mb lo) (n + 6) H (.ref 329) [.ref A.v, .int p] (rPict (V.W (p - 1)) (V.W p) V.keep) := by
  refine CalP.conv (d := ?d) ?hc ?he
  rotate_left
  case hc =>
    refine CalP.fn (es := [.ref A.v, .int p]) [Str.ofString "view", Str.ofString "at"] (by ktr_unf) (by ktr_unf) (fun B T s vs k i => BindsTo.two (fun a b => rfl) i) (fun L hL => ?_)
    refine' ExP.asgS2 ?a1 ?a2
    case a1 => tb_start
    case a2 =>
      refine' ExP.iteR (x := false) (d1 := .none) ?b1 (fun h => by cases h) (fun _ => ?b3)
      case b1 =>
        refine' EvPB.and (a := false) (b := false) ?b4 (fun h => by cases h)
        case b4 => rw [← hR]; tb_start
      case b3 =>
        refine' ExP.iteF (x := false) (d1 := .none) ?c1 (fun h => by cases h) (fun _ => ?c3)
        case c1 => rw [← hE]; tb_start
        case c3 => tb_start
  rfl
end

section
variable {w : World} {mg mb : Str → Option Value} {lo : Lo} {n : Nat} {H : Hp} {A : VA} {V : Vw} {lb gc ea : Int → Str}
theorem ntl_or {x y : D} (a : ntl x = true) (b : ntl y = true) : ntl (vOr x y) = true := by unfold vOr; cases truth x <;> assumption
theorem ntl_m (a : Str) (b : Str) : ntl (.tup [.str a, .str b]) = true := by rfl
theorem ntl_n : ntl .none = true := rfl
theorem ntl_hard (a b : Str) : ntl (rHard a b) = true := by unfold rHard; repeat' first | exact ntl_m _ _ | exact ntl_n | apply ntl_bif
theorem ntl_spaces (b s : Str) (j : Bool) : ntl (rSpaces b s j) = true := by unfold rSpaces; repeat' first | exact ntl_m _ _ | exact ntl_n | apply ntl_bif
theorem ntl_glue (a b : Str) : ntl (rGlue a b) = true := by unfold rGlue; repeat' first | exact ntl_m _ _ | exact ntl_n | apply ntl_bif
theorem ntl_closing (a b s k : Str) : ntl (rClosing a b s k) = true := by unfold rClosing; repeat' first | exact ntl_m _ _ | exact ntl_n | apply ntl_bif
theorem ntl_quotes (V : Vw) (gc : Int → Str) (p : Int) : ntl (rQuotes V gc p) = true := by unfold rQuotes; repeat' first | exact ntl_m _ _ | exact ntl_n | apply ntl_bif
theorem ntl_over (a b s : Str) : ntl (rOver a b s) = true := by unfold rOver; repeat' first | exact ntl_m _ _ | exact ntl_n | apply ntl_bif
theorem ntl_signs (a b s k : Str) : ntl (rSigns a b s k) = true := by unfold rSigns; repeat' first | exact ntl_m _ _ | exact ntl_n | apply ntl_bif
theorem ntl_letters (a b : Str) : ntl (rLetters a b) = true := by unfold rLetters; repeat' first | exact ntl_m _ _ | exact ntl_n | apply ntl_bif
theorem ntl_expr (V : Vw) (p : Int) : ntl (rExpr V p) = true := by unfold rExpr; repeat' first | exact ntl_m _ _ | exact ntl_n | apply ntl_bif
theorem ntl_numbers (V : Vw) (p : Int) : ntl (rNumbers V p) = true := by unfold rNumbers; repeat' first | exact ntl_m _ _ | exact ntl_n | exact ntl_expr V p | apply ntl_bif
theorem ntl_syll (a b : Str) : ntl (rSyll a b) = true := by unfold rSyll; repeat' first | exact ntl_m _ _ | exact ntl_n | apply ntl_bif
theorem ntl_aksaras (V : Vw) (p : Int) : ntl (rAksaras V p) = true := by unfold rAksaras; repeat' first | exact ntl_m _ _ | exact ntl_n | apply ntl_bif
theorem ntl_brackets (V : Vw) (ea : Int → Str) (p : Int) : ntl (rBrackets V ea p) = true := by unfold rBrackets; repeat' first | exact ntl_m _ _ | exact ntl_n | apply ntl_bif
theorem ntl_pict (a b : Str) (k : Bool) : ntl (rPict a b k) = true := by unfold rPict; repeat' first | exact ntl_m _ _ | exact ntl_n | apply ntl_bif

local macro_rules | `(tactic| tb_rel) => `(tactic| first | ((show EvP _ _ _ _ _ _ _); (refine' EvP.callD ?g1 ?g2 ?_ ?_; (case g2 => (refine' EvP.glob ?g3 ?g4; (case g3 => ktr_unf); (case g4 => exact IsTop.ref))); (case g1 => ktr_unf))))
local macro_rules | `(tactic| tb_rel) => `(tactic| first | ((show CalP _ _ _ _ _ _); first
  | exact rule_hard_ok (by assumption) _
  | exact rule_spaces_ok (by assumption) _ (by assumption) (by assumption)
  | exact rule_glue_ok (by assumption) _
  | exact rule_closing_ok (by assumption) _ (by assumption) (by assumption)
  | exact CalP.le (rule_quotes_ok (by assumption) (by assumption) (by assumption) _ (by assumption) (by assumption)) (by one_sign)
  | exact rule_over_ok (by assumption) _ (by assumption) (by assumption)
  | exact rule_signs_ok (by assumption) _
  | exact rule_letters_ok (by assumption) _
  | exact rule_numbers_ok (by assumption) _ (by assumption) (by assumption)
  | exact rule_syllables_ok (by assumption) _ (by assumption)
  | exact rule_aksaras_ok (by assumption) _
  | exact CalP.le (rule_brackets_ok (by assumption) (by assumption) (by assumption) _ (by assumption) (by assumption)) (by one_sign)
  | exact rule_pictures_ok (by assumption) _ (by assumption) (by assumption)))
local macro_rules | `(tactic| tb_rel) => `(tactic| first | ((show EvP _ _ _ _ _ (Expr.BoolOp BoolOp.Or (_ :: _ :: _) _) _); (refine' EvP.or ?x0 ?n0 ?_; (case x0 => tb_start); (case n0 => ktr_rel))))
local macro_rules | `(tactic| ktr_rel) => `(tactic| repeat' first | exact ntl_hard _ _ | exact ntl_spaces _ _ _ | exact ntl_glue _ _ | exact ntl_closing _ _ _ _ | exact ntl_quotes _ _ _ | exact ntl_over _ _ _ | exact ntl_signs _ _ _ _ | exact ntl_letters _ _ | exact ntl_numbers _ _ | exact ntl_syll _ _ | exact ntl_aksaras _ _ | exact ntl_brackets _ _ _ | exact ntl_pict _ _ _ | exact ntl_m _ _ | apply ntl_or)
theorem verdict_ok (hV : View H A V) (hD : DatOk (mkG w mg mb lo) (n + 3) H A.da lb gc ea) (hc : V.codes) (p : Int) (h0 : 1 ≤ p) (h1 : p < V.us.length) (hj : jamo (V.W (p - 1)) = false) (hE : is (V.W p) "EM" = false) (hR : is (V.W (p - 1)) "RI" = false) :
    CalP (mkG w mg mb lo) (n + 8) H (.ref 336) [.ref A.v, .int p] (verdict V gc ea p) := by
  refine CalP.conv (d := ?d) ?hc ?he
  rotate_left
  case hc =>
    refine CalP.fn (es := [.ref A.v, .int p]) [Str.ofString "view", Str.ofString "at"] (by ktr_unf) (by ktr_unf) (fun B T s vs k i => BindsTo.two (fun a b => rfl) i) (fun L hL => ?_)
    refine' ExP.asg ?a1 ?a2
    case a1 => tb_start
    case a2 =>
      refine' ExP.asg ?b1 ?b2
      case b1 => tb_start
      case b2 =>
        refine' ExP.asg ?c1 ?c2
        case c1 => tb_start
        case c2 =>
          refine' ExP.asg ?d1 ?d2
          case d1 => tb_start
          case d2 => tb_start
  rfl
end

noncomputable def half (f : List Int) (x : Int) : Nat → Int → Int → Int
  | 0, lo, _ => lo - 1
  | k + 1, lo, hi => if lo < hi then (if f.getD ((lo + hi).fdiv 2).toNat 0 ≤ x then half f x k ((lo + hi).fdiv 2 + 1) hi else half f x k lo ((lo + hi).fdiv 2)) else lo - 1
noncomputable def halfP (f : List Int) (x : Int) : Int := half f x (f.length + 1) 0 f.length
theorem mid_ok {lo hi : Int} (h : lo < hi) : lo ≤ (lo + hi).fdiv 2 ∧ (lo + hi).fdiv 2 < hi := by
  rw [Int.fdiv_eq_ediv_of_nonneg _ (by decide)]; one_sign
theorem half_bounds (f : List Int) (x : Int) : ∀ (k : Nat) (lo hi : Int), 0 ≤ lo → lo ≤ hi → hi ≤ f.length → hi - lo < k → -1 ≤ half f x k lo hi ∧ half f x k lo hi < f.length
  | 0, lo, hi, a, b, c, d => by one_sign
  | k + 1, lo, hi, a, b, c, d => by
    unfold half
    split
    · rename_i h
      obtain ⟨h1, h2⟩ := mid_ok h
      split
      · exact half_bounds f x k _ hi (by one_sign) (by one_sign) c (by one_sign)
      · exact half_bounds f x k lo _ a h1 (by one_sign) (by one_sign)
    · one_sign
theorem half_nonneg (f : List Int) (x : Int) (h0 : f.getD 0 0 ≤ x) : ∀ (k : Nat) (lo hi : Int), 0 ≤ lo → lo ≤ hi → hi ≤ f.length → hi - lo < k → (hi = 0 → False) → 0 ≤ half f x k lo hi
  | 0, lo, hi, a, b, c, d, e => by one_sign
  | k + 1, lo, hi, a, b, c, d, e => by
    unfold half
    split
    · rename_i h
      obtain ⟨h1, h2⟩ := mid_ok h
      split
      · exact half_nonneg f x h0 k _ hi (by one_sign) (by one_sign) c (by one_sign) (by one_sign)
      · rename_i g
        refine half_nonneg f x h0 k lo _ a h1 (by one_sign) (by one_sign) fun z => ?_
        rw [z] at g; exact g h0
    · have : hi ≠ 0 := e
      one_sign
theorem halfP_lt (f : List Int) (x : Int) : -1 ≤ halfP f x ∧ halfP f x < f.length := half_bounds f x _ _ _ (Int.le_refl _) (by one_sign) (Int.le_refl _) (by one_sign)
theorem halfP_nonneg (f : List Int) (x : Int) (h : f ≠ []) (h0 : f.getD 0 0 ≤ x) : 0 ≤ halfP f x := half_nonneg f x h0 _ _ _ (Int.le_refl _) (by one_sign) (Int.le_refl _) (by one_sign) (by
  intro z; apply h; exact List.length_eq_zero_iff.mp (by one_sign))
section
variable {w : World} {mg mb : Str → Option Value} {lo : Lo} {n : Nat} {H : Hp}

theorem place_by_half_ok {l : Addr} {f : List Int} (hl : H l = some (.lst (f.map .int))) (hz : f.length < 2 ^ 20) (x : Int) : CalP (mkG w mg mb lo) (n + 1) H (.ref 61) [.ref l, .int x] (.int (halfP f x)) := by
  refine CalP.fn (es := [.ref l, .int x]) [Str.ofString "firsts", Str.ofString "number"] (by ktr_unf) (by ktr_unf) (fun B T s vs k i => BindsTo.two (fun a b => rfl) i) (fun L hL => ⟨?_⟩)
  refine Ex.asg (EvP.cint.to (Asg.name ?_))
  refine Ex.asg (EvP.to (EvP.callB (id := "len") (by ktr_unf) rfl (EvPL.cons (EvP.loc rfl) EvPL.nil) (CalP.lenL hl (by simp; one_sign))) (Asg.name ?_))
  refine Ex.while' (f.length + 1) (Whl.inv (fun k m H' => H' = H ∧ ∃ lo hi : Int, 0 ≤ lo ∧ lo ≤ hi ∧ hi ≤ f.length ∧ hi - lo ≤ k ∧ m (Str.ofString "firsts") = some (.ref l) ∧ m (Str.ofString "number") = some (.int x) ∧ m (Str.ofString "low") = some (.int lo) ∧ m (Str.ofString "high") = some (.int hi) ∧ half f x (k + 1) lo hi = halfP f x) ?_ f.length
    ⟨rfl, 0, f.length, by one_sign, by one_sign, by one_sign, by one_sign, rfl, rfl, rfl, by simp [lset], rfl⟩)
  rintro k m H' ⟨e0, lo, hi, h1, h2, h3, h4, m1, m2, m3, m4, e⟩
  rw [e0]; clear e0
  refine (EvPB.cmp (EvP.loc m3) (EvP.loc m4) CmpP.lt).to ⟨fun hb => ?_, fun hb => ?_⟩
  · have hlt := of_decide_eq_true hb
    obtain ⟨g1, g2⟩ := mid_ok hlt
    have hp : ((lo + hi).fdiv 2).toNat < f.length := by one_sign
    have hx : (f.map D.int)[((lo + hi).fdiv 2).toNat]? = some (.int (f.getD ((lo + hi).fdiv 2).toNat 0)) := by simp [hp, List.getD_eq_getElem?_getD]
    unfold half at e
    rw [if_pos hlt] at e
    refine Ex.asg (EvP.to (EvP.bin (EvP.bin (EvP.loc m3) (EvP.loc m4) BinP.add) EvP.cint (BinP.div (by decide) ?dv)) (Asg.name ?_))
    case dv => exact PyProof.noPylong_small (by decide)
    refine Ex.ite ((EvPB.cmp (EvP.item (EvP.loc (lset_get (by decide) m1)) (EvP.loc lset_self) (ItemP.lst hl (by one_sign) hx (by simp; one_sign))) (EvP.loc (lset_get (by decide) m2)) CmpP.lte).to ⟨fun hc => ?_, fun hc => ?_⟩)
    · refine Ex.asg (EvP.to (EvP.bin (EvP.loc lset_self) EvP.cint BinP.add) (Asg.name (Ex.nil ?_)))
      rw [if_pos (of_decide_eq_true hc)] at e
      refine Ex.nil ⟨k - 1, by one_sign, rfl, _, hi, ?_, ?_, h3, ?_, lset_get (by decide) (lset_get (by decide) m1), lset_get (by decide) (lset_get (by decide) m2), lset_self, lset_get (by decide) (lset_get (by decide) m4), ?_⟩
      · one_sign
      · one_sign
      · one_sign
      · rw [show k - 1 + 1 = k by one_sign]; exact e
    · refine Ex.asg (EvP.to (EvP.loc lset_self) (Asg.name (Ex.nil ?_)))
      rw [if_neg (of_decide_eq_false hc)] at e
      refine Ex.nil ⟨k - 1, by one_sign, rfl, lo, _, h1, ?_, ?_, ?_, lset_get (by decide) (lset_get (by decide) m1), lset_get (by decide) (lset_get (by decide) m2), lset_get (by decide) (lset_get (by decide) m3), lset_self, ?_⟩
      · one_sign
      · one_sign
      · one_sign
      · rw [show k - 1 + 1 = k by one_sign]; exact e
  · have hlt := of_decide_eq_false hb
    refine Ex.ret (EvP.to (EvP.bin (EvP.loc m3) EvP.cint BinP.sub) ⟨?_, rfl⟩)
    unfold half at e
    rw [if_neg hlt] at e
    rw [← e]
end

structure RM where
  st : List Int
  vs : List Str
  df : Str
noncomputable def RM.at (M : RM) (c : Int) : Str := (M.vs[(halfP M.st c).toNat]?).getD ⟨#[]⟩
structure RM.Ok (M : RM) : Prop where
  len : M.st.length = M.vs.length
  big : M.st.length < 1000
  ne : M.st ≠ []
  z : M.st.getD 0 0 = 0
noncomputable def rmD (M : RM) (s v : Addr) : List (D × D) := [(ss "default", .str M.df), (ss "starts", .ref s), (ss "values", .ref v)]
structure RMat (H : Hp) (r : Addr) (M : RM) (rx s v : Addr) : Prop where
  r : H r = some (.ins 450 rx)
  x : H rx = some (.dct (rmD M s v))
  s : H s = some (.lst (M.st.map .int))
  v : H v = some (.lst (M.vs.map .str))
theorem RMat.sub {H H' : Hp} {r rx s v : Addr} {M : RM} (h : RMat H r M rx s v) (S : Sub H H') : RMat H' r M rx s v := ⟨S _ _ h.r, S _ _ h.x, S _ _ h.s, S _ _ h.v⟩
structure DF (l : List (D × D)) : Prop where
  lb : kget (.inl (Str.ofString "lb")) l = some (ss "XX")
  gc : kget (.inl (Str.ofString "gc")) l = some (ss "Cn")
  ea : kget (.inl (Str.ofString "ea")) l = some (ss "N")
noncomputable def dtD (a1 a2 a3 a4 : Addr) : List (D × D) := [(ss "defaults", .ref a1), (ss "maps", .ref a2), (ss "properties", .ref a3), (ss "words", .ref a4)]
noncomputable def mapsD (rs : List (Str × Addr × RM)) : List (D × D) := rs.map fun p => (.str p.1, .ref p.2.1)
structure DataAt (H : Hp) (da : Addr) (rs : List (Str × Addr × RM)) : Prop where
  ex : ∃ dx a1 a2 a3 a4 dl, H da = some (.ins 499 dx) ∧ H dx = some (.dct (dtD a1 a2 a3 a4)) ∧ H a1 = some (.dct dl) ∧ DF dl ∧ H a2 = some (.dct (mapsD rs))
  rm : ∀ p ∈ rs, p.2.2.Ok ∧ ∃ rx s v, RMat H p.2.1 p.2.2 rx s v
theorem DataAt.sub {H H' : Hp} {da : Addr} {rs : List (Str × Addr × RM)} (h : DataAt H da rs) (S : Sub H H') : DataAt H' da rs := by
  obtain ⟨⟨dx, a1, a2, a3, a4, dl, e1, e2, e3, e4, e5⟩, h2⟩ := h
  exact ⟨⟨dx, a1, a2, a3, a4, dl, S _ _ e1, S _ _ e2, S _ _ e3, e4, S _ _ e5⟩, fun p hp => let ⟨a, rx, s, v, b⟩ := h2 p hp; ⟨a, rx, s, v, b.sub S⟩⟩
theorem mapsD_get (k : Str) : ∀ rs : List (Str × Addr × RM), kget (.inl k) (mapsD rs) = (rs.lookup k).map fun p => .ref p.1
  | [] => rfl
  | (k', r, M) :: rs => by
    have ih := mapsD_get k rs
    show kget (.inl k) ((.str k', .ref r) :: mapsD rs) = _
    unfold kget
    rw [List.lookup_cons]
    by_cases q : k' = k
    · subst q; simp [kt]
    · have e : (k == k') = false := by rw [beq_eq_false_iff_ne]; exact fun z => q z.symm
      simp [kt, q, e, ih]
theorem lookup_mem {α β : Type} [BEq α] [LawfulBEq α] {k : α} {v : β} : ∀ {l : List (α × β)}, l.lookup k = some v → (k, v) ∈ l
  | (k', v') :: l, h => by
    rw [List.lookup_cons] at h
    cases e : k == k' with
    | true => rw [e] at h; cases h; rw [beq_iff_eq.mp e]; exact .head _
    | false => rw [e] at h; exact .tail _ (lookup_mem h)
noncomputable def datW (rs : List (Str × Addr × RM)) (k d : Str) (c : Int) : Str := match rs.lookup k with
  | some p => p.2.at c
  | none => d
section
variable {w : World} {mg mb : Str → Option Value} {lo : Lo} {n : Nat} {H : Hp}

theorem CmpP.inD {G : Gd} {a : Addr} {l : List (D × D)} {k : Ky} (h : DctAt G H a l) : CmpP G n H .In (kd k) (.ref a) (kget k l).isSome := ⟨Cmp.inD h ⟨rfl, rfl⟩⟩
theorem CmpP.ninD {G : Gd} {a : Addr} {l : List (D × D)} {k : Ky} (h : DctAt G H a l) : CmpP G n H .NotIn (kd k) (.ref a) (!(kget k l).isSome) := ⟨Cmp.ninD h ⟨rfl, rfl⟩⟩
theorem ItemP.dct {G : Gd} {a : Addr} {l : List (D × D)} {k : Ky} {d : D} (h : DctAt G H a l) (hd : kget k l = some d) : ItemP G n H (.ref a) (kd k) d := ⟨Item.dct h hd ⟨rfl, rfl⟩⟩
theorem CalP.dget {G : Gd} {a : Addr} {l : List (D × D)} {k : Ky} (h : DctAt G H a l) : CalP G n H (.builtin "dict.get") [.ref a, kd k] ((kget k l).getD .none) := ⟨Cal.dget h ⟨rfl, rfl⟩⟩
theorem dct_there {G : Gd} {env : Env} {m : Loc} {a : Addr} {l : List (D × D)} (h : H a = some (.dct l)) : ∀ B h', TopOk G B → Sat G B (H.set env.locals (.ns m)) h' → H env.locals = none → ∃ ob, h'.get? a = some ob ∧ ob.cls = .type "dict" ∧ ob.dict = none :=
  fun B h' T S hL => dict_there hL h B h' T S
theorem EvP.dget {G : Gd} {env : Env} {m : Loc} {o e : Expr} {apos : Pos} {pos : Pos} {a : Addr} {l : List (D × D)} {k : Ky} {pl : Sem Bool} (hL : H env.locals = none) (h : EvP G n env m H o (.ref a)) (hd : H a = some (.dct l)) (h2 : EvP G n env m H e (kd k))
    (he : MCall env o (Str.ofString "get") apos [e] pos pl := by rfl) (hs : starEach (e :: []) env = (false, eval e env) :: starEach [] env := by rfl) :
    EvP G n env m H (.Call (.Attribute o (Str.ofString "get") apos) [e] [] pos) ((kget k l).getD .none) :=
  EvP.methB PySem.F.plainAttrs_dict PySem.F.slot_dict_get PySem.F.type_dict_get h (fun B h' T S => dct_there hd B h' T S hL) (EvPL.cons h2 EvPL.nil hs) (CalP.dget (DctAt.own hd)) he hs
theorem rm_get_ok {r rx s v : Addr} {M : RM} (h : RMat H r M rx s v) (hM : M.Ok) (c : Int) (hc : 0 ≤ c) : CalP (mkG w mg mb lo) (n + 2) H (.ref 426) [.ref r, .int c] (.str (M.at c)) := by
  have b0 := halfP_nonneg M.st c hM.ne (by rw [hM.z]; exact hc)
  have b1 := (halfP_lt M.st c).2
  have l0 := hM.len
  have l1 := hM.big
  have hx : (M.vs.map D.str)[(halfP M.st c).toNat]? = some (.str (M.at c)) := by
    have : (halfP M.st c).toNat < M.vs.length := by one_sign
    unfold RM.at; simp [this]
  refine CalP.fn (es := [.ref r, .int c]) [Str.ofString "self", Str.ofString "code"] (by ktr_unf) (by ktr_unf) (fun B T s vs k i => BindsTo.two (fun a b => rfl) i) (fun L hL => ?_)
  refine ExP.ret (EvP.item (EvP.attr (EvP.loc rfl) (gp_RangeMap_values h.r h.x rfl)) (EvP.callD (f := 61) (by ktr_unf) (EvP.glob (by ktr_unf) IsTop.ref) (EvPL.cons (EvP.attr (EvP.loc rfl) (gp_RangeMap_starts h.r h.x rfl)) (EvPL.cons (EvP.loc rfl) EvPL.nil)) (place_by_half_ok h.s (by one_sign) c)) (ItemP.lst h.v b0 hx (by simp; one_sign)))
theorem data_get_ok {da : Addr} {rs : List (Str × Addr × RM)} (h : DataAt H da rs) (k : Str) (d : Str) (hd : ∀ l, DF l → kget (.inl k) l = some (.str d)) (c : Int) (hc : 0 ≤ c) : CalP (mkG w mg mb lo) (n + 3) H (.ref 489) [.ref da, .str k, .int c] (.str (datW rs k d c)) := by
  obtain ⟨⟨dx, a1, a2, a3, a4, dl, e1, e2, e3, e4, e5⟩, h2⟩ := h
  have hm := mapsD_get k rs
  have g1 : ∀ {n : Nat}, GetP (mkG w mg mb lo) n H (.ref da) (Str.ofString "maps") (.ref a2) := gp_Data_maps e1 e2 rfl
  refine CalP.fn (es := [.ref da, .str k, .int c]) [Str.ofString "self", Str.ofString "name", Str.ofString "code"] (by ktr_unf) (by ktr_unf) (fun B T s vs k i => BindsTo.three (fun a b c => rfl) i) (fun L hL => ?_)
  cases q : rs.lookup k with
  | some p =>
    obtain ⟨r, M⟩ := p
    rw [q] at hm
    obtain ⟨hM, rx, s, v, hR⟩ := h2 _ (lookup_mem q)
    refine ExP.conv (d := .str (M.at c)) ?_ (by unfold datW; rw [q])
    refine ExP.conv (d := bif (kget (.inl k) (mapsD rs)).isSome then .str (M.at c) else .none) ?_ (by rw [hm]; rfl)
    refine ExP.iteR (EvPB.cmp (EvP.loc rfl) (EvP.attr (EvP.loc rfl) g1) (CmpP.inD (k := .inl k) (DctAt.own e5))) (fun _ => ?_) (fun z => absurd z (by rw [hm]; simp))
    refine ExP.ret (EvP.meth (C := 450) hR.r hR.x rfl me_RangeMap_get.1 me_RangeMap_get.2.1 me_RangeMap_get.2.2.1 me_RangeMap_get.2.2.2 (EvP.item (EvP.attr (EvP.loc rfl) g1) (EvP.loc rfl) (ItemP.dct (k := .inl k) (DctAt.own e5) hm)) (EvPL.cons (EvP.loc rfl) EvPL.nil) (rm_get_ok hR hM c hc))
  | none =>
    rw [q] at hm
    refine ExP.conv (d := bif (kget (.inl k) (mapsD rs)).isSome then .none else (kget (.inl k) dl).getD .none) ?_ (by rw [hm, hd dl e4]; unfold datW; rw [q]; rfl)
    refine ExP.iteR (EvPB.cmp (EvP.loc rfl) (EvP.attr (EvP.loc rfl) g1) (CmpP.inD (k := .inl k) (DctAt.own e5))) (fun z => absurd z (by rw [hm]; simp)) (fun _ => ?_)
    exact ExP.ret (EvP.dget hL (EvP.attr (EvP.loc rfl) (gp_Data_defaults e1 e2 rfl)) e3 (EvP.loc rfl))
theorem DataAt.dat {da : Addr} {rs : List (Str × Addr × RM)} (h : DataAt H da rs) : DatOk (mkG w mg mb lo) (n + 3) H da (datW rs (Str.ofString "lb") (Str.ofString "XX")) (datW rs (Str.ofString "gc") (Str.ofString "Cn")) (datW rs (Str.ofString "ea") (Str.ofString "N")) := by
  have h' := h
  obtain ⟨⟨dx, a1, a2, a3, a4, dl, e1, e2, e3, e4, e5⟩, h2⟩ := h'
  exact ⟨⟨dx, _, e1, e2, rfl⟩, fun c hc => data_get_ok h _ _ (fun l h => h.lb) c hc, fun c hc => data_get_ok h _ _ (fun l h => h.gc) c hc, fun c hc => data_get_ok h _ _ (fun l h => h.ea) c hc⟩
end

noncomputable def okW (x : Str) : Bool := !(inl x ["AI", "SG", "XX"]) && !(is x "SA") && !(is x "CJ") && !(inl x ["CM", "ZWJ"])
section
variable {w : World} {mg mb : Str → Option Value} {lo : Lo} {n : Nat} {H : Hp} {lb gc ea : Int → Str}

theorem line_class_ok {da hw dh : Addr} {S N : Str} {kp : Bool} (hD : DatOk (mkG w mg mb lo) (n + 3) H da lb gc ea) (c : Int) (hc : 0 ≤ c) (hw1 : H hw = some (.ins 122 dh)) (hw2 : H dh = some (.dct [(ss "strictness", .str S), (ss "keep_all", .bool kp), (ss "numbers", .str N)]))
    (hS : is S "strict" = true) (hk : okW (lb c) = true) : CalP (mkG w mg mb lo) (n + 4) H (.ref 140) [.int c, .ref da, .ref hw] (.str (lb c)) := by
  obtain ⟨dd, l, a, b, z⟩ := hD.inst
  unfold okW at hk
  simp only [Bool.and_eq_true, Bool.not_eq_true'] at hk
  obtain ⟨⟨⟨k1, k2⟩, k3⟩, k4⟩ := hk
  have hS' : S = Str.ofString "strict" := beq_iff_eq.mp hS
  refine CalP.fn (es := [.int c, .ref da, .ref hw]) [Str.ofString "code", Str.ofString "data", Str.ofString "how"] (by ktr_unf) (by ktr_unf) (fun B T s vs k i => BindsTo.three (fun a b c => rfl) i) (fun L hL => ?_)
  refine ExP.asg (EvP.meth (C := 499) a b z me_Data_get.1 me_Data_get.2.1 me_Data_get.2.2.1 me_Data_get.2.2.2 (EvP.loc rfl) (EvPL.cons EvP.cstr (EvPL.cons (EvP.loc rfl) EvPL.nil)) ((hD.lb c hc).le (by one_sign))) ?_
  refine ExP.iteR (x := false) (d1 := .none) ?t1 (fun h => by cases h) (fun _ => ?_)
  case t1 => rw [← k1]; tb_start
  refine ExP.iteR (x := false) (d1 := .none) ?t2 (fun h => by cases h) (fun _ => ?_)
  case t2 => rw [← k2]; tb_start
  refine ExP.iteR (x := false) (d1 := .none) ?t3 (fun h => by cases h) (fun _ => ?_)
  case t3 => rw [← k3]; tb_start
  refine ExP.iteR (x := false) (d1 := .none) ?t4 (fun h => by cases h) (fun _ => ?_)
  case t4 =>
    refine EvPB.conv (b := is (lb c) "NS" && (false && false)) ?_ (by simp)
    refine EvPB.and ?t5 (fun _ => ?t6)
    case t5 => tb_start
    case t6 =>
      refine EvPB.and (a := false) (b := false) ?t7 (fun h => by cases h)
      case t7 =>
        refine EvPB.conv (b := deq (.str S) (.str (Str.ofString "loose"))) ?_ (by rw [hS']; decide)
        exact EvPB.cmp (EvP.attr (EvP.loc rfl) (gp_LineHow_strictness hw1 hw2 rfl)) EvP.cstr CmpP.eq
  exact ExP.ret (EvP.loc rfl)
noncomputable def inst (H : Hp) (x dx C : Addr) (l : List (D × D)) : Hp := (H.set dx (.dct l)).set x (.ins C dx)
theorem inst_x {H : Hp} {x dx C : Addr} {l : List (D × D)} : inst H x dx C l x = some (.ins C dx) := Hp.set_self ..
theorem inst_dx {H : Hp} {x dx C : Addr} {l : List (D × D)} (h : x ≠ dx) : inst H x dx C l dx = some (.dct l) := by unfold inst; rw [Hp.set_ne _ _ (Ne.symm h)]; exact Hp.set_self ..
theorem inst_set {H : Hp} {x dx C : Addr} {l l' : List (D × D)} (h : x ≠ dx) : (inst H x dx C l).set dx (.dct l') = inst H x dx C l' := by unfold inst; rw [Hp.set_comm _ _ _ h, Hp.set_set]
theorem inst_own {H : Hp} {x dx C : Addr} {l : List (D × D)} (h1 : H x = none) (h2 : H dx = none) (h : x ≠ dx) : Own H (inst H x dx C l) [(x, .ins C dx), (dx, .dct l)] :=
  ((Own.refl H).alloc h2).alloc ((Hp.set_ne _ _ h).trans h1)
theorem LineUnit_ok {W : Str} {c p : Int} {Q : D → Hp → Prop} (h : ∀ x dx, Own H (inst H x dx 157 (unitD ⟨W, c, p, false⟩)) [(x, .ins 157 dx), (dx, .dct (unitD ⟨W, c, p, false⟩))] → Q (.ref x) (inst H x dx 157 (unitD ⟨W, c, p, false⟩))) : CalC (mkG w mg mb lo) (n + 2) H (.ref 157) [.str W, .int c, .int p] Q := by
  refine CalC.cls (fI := 154) (by ktr_unf) (by ktr_unf) (by ktr_unf) (fun x dx hx hdx hne => ?_)
  refine CalC.fn (es := [.ref x, .str W, .int c, .int p]) [Str.ofString "self", Str.ofString "word", Str.ofString "code", Str.ofString "at"] (by ktr_unf) (by ktr_unf) (fun B T s vs k i => BindsTo.four (fun a b c d => rfl) i) (fun L hL => ?_)
  refine Ex.asgA ((EvP.loc rfl).to ((EvP.loc rfl).to (sa_LineUnit_word inst_x (inst_dx hne) (Nat.le_of_ble_eq_true rfl) ?_)))
  rw [show ((H.set dx (.dct [])).set x (.ins 157 dx)) = inst H x dx 157 [] from rfl, inst_set hne]
  refine Ex.asgA ((EvP.loc rfl).to ((EvP.loc rfl).to (sa_LineUnit_code inst_x (inst_dx hne) (Nat.le_of_ble_eq_true rfl) ?_)))
  rw [inst_set hne]
  refine Ex.asgA ((EvP.loc rfl).to ((EvP.loc rfl).to (sa_LineUnit_at inst_x (inst_dx hne) (Nat.le_of_ble_eq_true rfl) ?_)))
  rw [inst_set hne]
  refine Ex.asgA (EvP.cbool.to ((EvP.loc rfl).to (sa_LineUnit_is_joined inst_x (inst_dx hne) (Nat.le_of_ble_eq_true rfl) ?_)))
  rw [inst_set hne]
  exact Ex.nil ⟨rfl, h x dx (inst_own hx hdx hne)⟩
end

theorem enuL_inv {ds : List D} {i : Nat} {d : D} (h : (enuL ds)[i]? = some d) : ∃ e, ds[i]? = some e ∧ d = .tup [.int i, e] := by
  unfold enuL at h
  rw [List.getElem?_map, List.getElem?_zipIdx] at h
  cases e : ds[i]? with
  | none => rw [e] at h; simp at h
  | some x => rw [e] at h; simp at h; exact ⟨x, rfl, h.symm⟩
theorem map_inv {α : Type} {f : α → D} {l : List α} {i : Nat} {d : D} (h : (l.map f)[i]? = some d) : ∃ e, l[i]? = some e ∧ d = f e := by
  rw [List.getElem?_map] at h
  cases e : l[i]? with
  | none => rw [e] at h; simp at h
  | some x => rw [e] at h; simp at h; exact ⟨x, rfl, h.symm⟩
noncomputable def UnitsIn (L : List (Addr × X)) (lb : Int → Str) (codes : List Int) (xs : List Addr) : Prop :=
  ∀ (j : Nat) (x : Addr), xs[j]? = some x → ∃ c dx, codes[j]? = some c ∧ (x, X.ins 157 dx) ∈ L ∧ (dx, X.dct (unitD ⟨lb c, c, j, false⟩)) ∈ L
theorem UnitsIn.mono {L L' : List (Addr × X)} {lb : Int → Str} {codes : List Int} {xs : List Addr} (h : UnitsIn L lb codes xs) (s : ∀ p ∈ L, p ∈ L') : UnitsIn L' lb codes xs :=
  fun j x e => let ⟨c, dx, a, b, d⟩ := h j x e; ⟨c, dx, a, s _ b, s _ d⟩
theorem UnitsIn.snoc {L : List (Addr × X)} {lb : Int → Str} {codes : List Int} {xs : List Addr} {x dx : Addr} {c : Int} (h : UnitsIn L lb codes xs) (hc : codes[xs.length]? = some c) (h1 : (x, X.ins 157 dx) ∈ L) (h2 : (dx, X.dct (unitD ⟨lb c, c, xs.length, false⟩)) ∈ L) : UnitsIn L lb codes (xs ++ [x]) := fun j y e => by
  by_cases q : j < xs.length
  · rw [List.getElem?_append_left q] at e; exact h j y e
  · have : j = xs.length := by
      have := (List.getElem?_eq_some_iff.mp e).1
      simp at this; one_sign
    subst this
    simp at e; subst e
    exact ⟨c, dx, hc, h1, h2⟩
section
variable {w : World} {mg mb : Str → Option Value} {lo : Lo} {n : Nat} {H : Hp} {lb gc ea : Int → Str}

theorem line_units_ok {t da hw dh : Addr} {codes : List Int} {S N : Str} {kp : Bool} {Q : D → Hp → Prop} (ht : H t = some (.lst (codes.map .int))) (hz : codes.length ≤ 100)
    (hD : ∀ H', Sub H H' → DatOk (mkG w mg mb lo) (n + 3) H' da lb gc ea) (hw1 : H hw = some (.ins 122 dh)) (hw2 : H dh = some (.dct [(ss "strictness", .str S), (ss "keep_all", .bool kp), (ss "numbers", .str N)])) (hS : is S "strict" = true)
    (hc : ∀ c ∈ codes, 0 ≤ c ∧ okW (lb c) = true)
    (q : ∀ fa xs UL H', Own H H' ((fa, .lst (xs.map .ref)) :: UL) → UnitsIn UL lb codes xs → xs.length = codes.length → Q (.ref fa) H') : CalC (mkG w mg mb lo) (n + 5) H (.ref 168) [.ref t, .ref da, .ref hw] Q := by
  refine CalC.fn (es := [.ref t, .ref da, .ref hw]) [Str.ofString "text", Str.ofString "data", Str.ofString "how"] (by ktr_unf) (by ktr_unf) (fun B T s vs k i => BindsTo.three (fun a b c => rfl) i) (fun L hL => ?_)
  refine Ex.asg (Ev.lst (EvL.nil ⟨by decide, fun fa hfa _ => Asg.name ?_⟩))
  refine Ex.forEnum (by one_sign) (by ktr_unf) rfl (EvP.loc rfl) (Hp.keep hfa ht) rfl ?_
  refine Lp.inv (fun i m H' => ∃ xs UL, m (Str.ofString "found") = some (.ref fa) ∧ m (Str.ofString "data") = some (.ref da) ∧ m (Str.ofString "how") = some (.ref hw) ∧ Own H H' ((fa, .lst (xs.map .ref)) :: UL) ∧ UnitsIn UL lb codes xs ∧ xs.length = i) ?_ ?_ ⟨[], [], lset_self, rfl, rfl, (Own.refl H).alloc hfa, fun j x e => by simp at e, rfl⟩
  · rintro i d m H' hi ⟨xs, UL, m1, m2, m3, o, u, rfl⟩
    obtain ⟨_, hi2, rfl⟩ := enuL_inv hi
    obtain ⟨c, hi3, rfl⟩ := map_inv hi2
    clear hi hi2
    have hcm := hc c (List.mem_of_getElem? hi3)
    have hlt : xs.length < codes.length := (List.getElem?_eq_some_iff.mp hi3).1
    refine ⟨o.sub _ _ ht, Asg.tup (AsgL.cons (Asg.name (AsgL.cons (Asg.name (AsgL.nil ?_)))))⟩
    have hk := hcm.2
    refine Ex.asg (EvP.to (EvP.callD (by ktr_unf) (EvP.glob (by ktr_unf) IsTop.ref) (EvPL.cons (EvP.loc lset_self) (EvPL.cons (EvP.loc (lset_get (by decide) (lset_get (by decide) m2))) (EvPL.cons (EvP.loc (lset_get (by decide) (lset_get (by decide) m3))) EvPL.nil))) (line_class_ok (hD _ o.sub) c hcm.1 (o.sub _ _ hw1) (o.sub _ _ hw2) hS hk)) (Asg.name ?_))
    refine Ex.iteP (x := true) ?tst (fun _ => ?_) (fun h => by cases h)
    case tst =>
      have hk2 : (!(inl (lb c) ["CM", "ZWJ"])) = true := by
        unfold okW at hk
        simp only [Bool.and_eq_true] at hk
        exact hk.2
      refine' EvPB.conv ?t1 ?t2
      case t1 => tb_start
      case t2 => exact hk2
    refine Ex.append (EvP.loc (lset_get (by decide) (lset_get (by decide) (lset_get (by decide) m1)))) (o.has _ (.head _)) ?_
    refine Ev.callG (by ktr_unf) (by ktr_unf) (EvL.cons (EvP.to (EvP.loc lset_self) (EvL.cons (EvP.to (EvP.loc (lset_get (by decide) lset_self)) (EvL.cons (EvP.to (EvP.loc (lset_get (by decide) (lset_get (by decide) lset_self))) (EvL.nil ?_)))))))
    refine CalC.cal (CalC.le (LineUnit_ok (n := n) fun x dx o2 => ?_) (by one_sign))
    have o3 := o.trans o2
    refine ⟨_, o3.has (fa, _) (.tail _ (.tail _ (.head _))), by simp; rw [sizeLine_eq]; one_sign, ?_⟩
    have o4 := (o3.upd (y := .lst (xs.map .ref ++ [.ref x])) 2 rfl)
    refine Ex.cont ⟨xs ++ [x], (x, .ins 157 dx) :: (dx, .dct (unitD ⟨lb c, c, xs.length, false⟩)) :: UL, lset_get (by decide) (lset_get (by decide) (lset_get (by decide) m1)), lset_get (by decide) (lset_get (by decide) (lset_get (by decide) m2)), lset_get (by decide) (lset_get (by decide) (lset_get (by decide) m3)), ?_, ?_, by simp⟩
    · rw [List.map_append]
      exact o4.perm (List.perm_middle (l₁ := [_, _]))
    · exact (u.mono fun p hp => .tail _ (.tail _ hp)).snoc hi3 (.head _) (.tail _ (.head _))
  · rintro m H' ⟨xs, UL, m1, m2, m3, o, u, hl⟩
    refine ⟨o.sub _ _ ht, Ex.ret (EvP.to (EvP.loc m1) (q fa xs UL H' o u (by rw [hl, enuL_len]; simp)))⟩
end

structure VS where
  last : Int
  many : Int
  num : Bool
noncomputable def stepV (k : Nat) (s : VS) (x : Str) : VS := ⟨bif is x "SP" then s.last else k, bif is x "RI" then s.many + 1 else 0, is x "NU" || (s.num && inl x INNER)⟩
noncomputable def stV (lb : Int → Str) (codes : List Int) : Nat → VS
  | 0 => ⟨-1, 0, false⟩
  | i + 1 => stepV i (stV lb codes i) (lb (codes.getD i 0))
noncomputable def mkV (lb : Int → Str) (codes : List Int) (S N : Str) (kp : Bool) : Vw :=
  { us := codes.mapIdx fun i c => ⟨lb c, c, i, false⟩, solid := (List.range codes.length).map fun i => (stV lb codes (i + 1)).last, regional := (List.range codes.length).map fun i => (stV lb codes (i + 1)).many,
    numeric := (List.range codes.length).map fun i => (stV lb codes (i + 1)).num, strict := S, keep := kp, nums := N }
noncomputable def howD (S N : Str) (kp : Bool) : List (D × D) := [(ss "strictness", .str S), (ss "keep_all", .bool kp), (ss "numbers", .str N)]
noncomputable def viewD (da hw fa so re nu : Addr) : List (D × D) := [(ss "data", .ref da), (ss "how", .ref hw), (ss "units", .ref fa), (ss "solid", .ref so), (ss "regional", .ref re), (ss "numeric", .ref nu)]
section
variable {w : World} {mg mb : Str → Option Value} {lo : Lo} {n : Nat} {H : Hp} {lb gc ea : Int → Str}

local macro_rules | `(tactic| tb_rel) => `(tactic| first | ((show EvP _ _ _ _ _ (Expr.Name _ _) _); (refine' EvP.loc ?l; (case l => ktr_rel))) | ((show EvP _ _ _ _ _ (Expr.Attribute _ _ _) _); (refine' EvP.attr ?l ?r; (case l => tb_start); (case r => tb_start))) | ((show GetP _ _ _ _ _ _); exact gp_LineUnit_word (by assumption) (by assumption) rfl))
theorem mkV_len (lb : Int → Str) (codes : List Int) (S N : Str) (kp : Bool) : (mkV lb codes S N kp).us.length = codes.length := by simp [mkV]
theorem view_of {H' : Hp} {L : List (Addr × X)} {x dx fa so re nu da hw dh : Addr} {xs : List Addr} {codes : List Int} {S N : Str} {kp : Bool} (o : ∀ p ∈ L, H' p.1 = some p.2) (hz : codes.length ≤ 100)
    (h1 : (x, X.ins 213 dx) ∈ L) (h2 : (dx, X.dct (viewD da hw fa so re nu)) ∈ L) (h3 : (fa, X.lst (xs.map .ref)) ∈ L) (h4 : UnitsIn L lb codes xs) (h5 : xs.length = codes.length)
    (hw1 : H' hw = some (.ins 122 dh)) (hw2 : H' dh = some (.dct (howD S N kp)))
    (g1 : (so, X.lst ((List.range codes.length).map fun i => .int (stV lb codes (i + 1)).last)) ∈ L) (g2 : (re, X.lst ((List.range codes.length).map fun i => .int (stV lb codes (i + 1)).many)) ∈ L) (g3 : (nu, X.lst ((List.range codes.length).map fun i => .bool (stV lb codes (i + 1)).num)) ∈ L) :
    View H' ⟨x, dx, hw, dh, fa, so, re, nu, da, xs⟩ (mkV lb codes S N kp) where
  v := o _ h1
  dv := o _ h2
  ho := hw1
  dh := hw2
  un := o _ h3
  so := (o _ g1).trans (by simp [mkV, Function.comp_def])
  re := (o _ g2).trans (by simp [mkV, Function.comp_def])
  nu := (o _ g3).trans (by simp [mkV, Function.comp_def])
  unit := fun i u hu => by
    obtain ⟨c, d, a, b, e⟩ := h4 i u hu
    exact ⟨d, ⟨lb c, c, i, false⟩, by simp [mkV, a], o _ b, o _ e⟩
  len := by rw [mkV_len]; exact h5
  lso := by simp [mkV]
  lre := by simp [mkV]
  lnu := by simp [mkV]
  small := by rw [mkV_len]; exact hz
theorem range_snoc {f : Nat → D} {k : Nat} : ((List.range k).map f) ++ [f k] = (List.range (k + 1)).map f := by rw [List.range_succ, List.map_append]; rfl
theorem LineView_ok {t da hw dh : Addr} {codes : List Int} {S N : Str} {kp : Bool} {Q : D → Hp → Prop} (ht : H t = some (.lst (codes.map .int))) (hz : codes.length ≤ 100)
    (hD : ∀ H', Sub H H' → DatOk (mkG w mg mb lo) (n + 3) H' da lb gc ea) (hw1 : H hw = some (.ins 122 dh)) (hw2 : H dh = some (.dct (howD S N kp))) (hS : is S "strict" = true)
    (hc : ∀ c ∈ codes, 0 ≤ c ∧ okW (lb c) = true)
    (q : ∀ (A : VA) L H', A.da = da → Own H H' L → (∀ H'', (∀ p ∈ L, H'' p.1 = some p.2) → H'' hw = some (.ins 122 dh) → H'' dh = some (.dct (howD S N kp)) → View H'' A (mkV lb codes S N kp)) → Q (.ref A.v) H') : CalC (mkG w mg mb lo) (n + 7) H (.ref 213) [.ref t, .ref da, .ref hw] Q := by
  refine CalC.cls (fI := 182) (by ktr_unf) (by ktr_unf) (by ktr_unf) (fun x dx hx hdx hne => ?_)
  refine CalC.fn (es := [.ref x, .ref t, .ref da, .ref hw]) [Str.ofString "self", Str.ofString "text", Str.ofString "data", Str.ofString "how"] (by ktr_unf) (by ktr_unf) (fun B T s vs k i => BindsTo.four (fun a b c d => rfl) i) (fun L hL => ?_)
  have o0 : Own H ((H.set dx (.dct [])).set x (.ins 213 dx)) [(x, .ins 213 dx), (dx, .dct [])] := inst_own hx hdx hne
  revert o0 hL; generalize (H.set dx (.dct [])).set x (.ins 213 dx) = H0; intro hL o0
  refine Ex.asgA ((EvP.loc rfl).to ((EvP.loc rfl).to (sa_LineView_data (o0.get (.head _)) (o0.get (.tail _ (.head _))) (Nat.le_of_ble_eq_true rfl) ?_)))
  have o1 := o0.upd (y := .dct (sput (Str.ofString "data") (.ref da) [])) 1 rfl
  revert o1; generalize H0.set dx _ = H1; intro o1
  refine Ex.asgA ((EvP.loc rfl).to ((EvP.loc rfl).to (sa_LineView_how (o1.get (.head _)) (o1.get (.tail _ (.head _))) (Nat.le_of_ble_eq_true rfl) ?_)))
  have o2 := o1.upd (y := .dct (sput (Str.ofString "how") (.ref hw) (sput (Str.ofString "data") (.ref da) []))) 1 rfl
  revert o2; generalize H1.set dx _ = H2; intro o2
  refine Ex.asgA (Ev.callG (by ktr_unf) (by ktr_unf) (EvL.cons (EvP.to (EvP.loc rfl) (EvL.cons (EvP.to (EvP.loc rfl) (EvL.cons (EvP.to (EvP.loc rfl) (EvL.nil ?_))))))))
  refine CalC.cal (line_units_ok (o2.sub _ _ ht) hz (fun H' s => hD H' (o2.sub.trans s)) (o2.sub _ _ hw1) (o2.sub _ _ hw2) hS hc fun fa xs UL H3 o3 u_of hl => ?_)
  have o4 : Own H H3 ((dx, .dct [(ss "data", .ref da), (ss "how", .ref hw)]) :: (x, .ins 213 dx) :: (fa, .lst (xs.map .ref)) :: UL) := (o2.trans o3).perm ((List.perm_append_comm (l₁ := (fa, .lst (xs.map .ref)) :: UL) (l₂ := [(x, .ins 213 dx), (dx, .dct [(ss "data", .ref da), (ss "how", .ref hw)])])).trans (List.Perm.swap ..))
  clear o2 o3 o1 o0
  refine (EvP.loc rfl).to (sa_LineView_units (o4.get (.tail _ (.head _))) (o4.get (.head _)) (Nat.le_of_ble_eq_true rfl) ?_)
  have o5 := o4.upd (y := .dct [(ss "data", .ref da), (ss "how", .ref hw), (ss "units", .ref fa)]) 0 rfl
  revert o5; generalize e5 : H3.set dx (X.dct [(ss "data", .ref da), (ss "how", .ref hw), (ss "units", .ref fa)]) = H5; intro o5
  replace e5 : H3.set dx (.dct (sput (Str.ofString "units") (.ref fa) [(ss "data", .ref da), (ss "how", .ref hw)])) = H5 := e5
  rw [e5]; clear e5 o4
  refine Ex.asgA (Ev.lst (EvL.nil ⟨by decide, fun so hso _ => ?_⟩))
  have o6 := o5.alloc (x := .lst []) hso
  refine (EvP.loc rfl).to (sa_LineView_solid (o6.get (.tail _ (.tail _ (.head _)))) (o6.get (.tail _ (.head _))) (Nat.le_of_ble_eq_true rfl) ?_)
  have o7 := o6.upd (y := .dct (sput (Str.ofString "solid") (.ref so) [(ss "data", .ref da), (ss "how", .ref hw), (ss "units", .ref fa)])) 1 rfl
  revert o7; generalize (H5.set so _).set dx _ = H7; intro o7
  clear o5 o6 hso
  refine Ex.asgA (Ev.lst (EvL.nil ⟨by decide, fun re hre _ => ?_⟩))
  have o8 := o7.alloc (x := .lst []) hre
  refine (EvP.loc rfl).to (sa_LineView_regional (o8.get (.tail _ (.tail _ (.tail _ (.head _))))) (o8.get (.tail _ (.tail _ (.head _)))) (Nat.le_of_ble_eq_true rfl) ?_)
  have o9 := o8.upd (y := .dct (sput (Str.ofString "regional") (.ref re) (sput (Str.ofString "solid") (.ref so) [(ss "data", .ref da), (ss "how", .ref hw), (ss "units", .ref fa)]))) 2 rfl
  revert o9; generalize (H7.set re _).set dx _ = H9; intro o9
  clear o7 o8 hre
  refine Ex.asgA (Ev.lst (EvL.nil ⟨by decide, fun nu hnu _ => ?_⟩))
  have oA := o9.alloc (x := .lst []) hnu
  refine (EvP.loc rfl).to (sa_LineView_numeric (oA.get (.tail _ (.tail _ (.tail _ (.tail _ (.head _)))))) (oA.get (.tail _ (.tail _ (.tail _ (.head _))))) (Nat.le_of_ble_eq_true rfl) ?_)
  have oB : Own H _ ((nu, .lst []) :: (re, .lst []) :: (so, .lst []) :: (dx, .dct (viewD da hw fa so re nu)) :: (x, .ins 213 dx) :: (fa, .lst (xs.map .ref)) :: UL) := oA.upd (y := .dct (viewD da hw fa so re nu)) 3 rfl
  revert oB; generalize eB : (H9.set nu _).set dx _ = HB; intro oB
  replace eB : (H9.set nu (.lst [])).set dx (.dct (sput (Str.ofString "numeric") (.ref nu) (sput (Str.ofString "regional") (.ref re) (sput (Str.ofString "solid") (.ref so) [(ss "data", .ref da), (ss "how", .ref hw), (ss "units", .ref fa)])))) = HB := eB
  rw [eB]; clear eB o9 oA hnu
  refine Ex.asgT (EvP.to (EvP.tup (EvPL.cons (EvP.neg EvP.cint) (EvPL.cons EvP.cint (EvPL.cons EvP.cbool EvPL.nil)))) ?_)
  refine Asg.tup (AsgL.cons (Asg.name (AsgL.cons (Asg.name (AsgL.cons (Asg.name (AsgL.nil ?_)))))))
  refine Ex.forEnum (by one_sign) (by ktr_unf) rfl (EvP.attr (EvP.loc rfl) (gp_LineView_units (oB.get (.tail _ (.tail _ (.tail _ (.tail _ (.head _)))))) (oB.get (.tail _ (.tail _ (.tail _ (.head _))))) rfl)) (oB.get (.tail _ (.tail _ (.tail _ (.tail _ (.tail _ (.head _))))))) rfl ?_
  have hun : ∀ (i : Nat) (u : Addr), xs[i]? = some u → ∃ (c : Int) (du : Addr), codes[i]? = some c ∧ (u, X.ins 157 du) ∈ UL ∧ (du, X.dct (unitD ⟨lb c, c, i, false⟩)) ∈ UL := fun i u e => u_of i u e
  refine Lp.inv (fun i m H' => m (Str.ofString "self") = some (.ref x) ∧ m (Str.ofString "last") = some (.int (stV lb codes i).last) ∧ m (Str.ofString "many") = some (.int (stV lb codes i).many) ∧ m (Str.ofString "is_number") = some (.bool (stV lb codes i).num) ∧
    Own H H' ((nu, .lst ((List.range i).map fun j => .bool (stV lb codes (j + 1)).num)) :: (re, .lst ((List.range i).map fun j => .int (stV lb codes (j + 1)).many)) :: (so, .lst ((List.range i).map fun j => .int (stV lb codes (j + 1)).last)) :: (dx, .dct (viewD da hw fa so re nu)) :: (x, .ins 213 dx) :: (fa, .lst (xs.map .ref)) :: UL)) ?_ ?_
    ⟨rfl, by ktr_rel, by ktr_rel, by ktr_rel, oB⟩
  · rintro i d m H' hi ⟨m1, m2, m3, m4, o⟩
    obtain ⟨_, hi2, rfl⟩ := enuL_inv hi
    obtain ⟨u, hi3, rfl⟩ := map_inv hi2
    obtain ⟨c, du, hc1, hu1, hu2⟩ := hun i u hi3
    clear hi hi2
    have hlt : i < codes.length := (List.getElem?_eq_some_iff.mp hc1).1
    have hstep : stV lb codes (i + 1) = stepV i (stV lb codes i) (lb c) := by
      show stepV i (stV lb codes i) (lb (codes.getD i 0)) = _
      rw [List.getD_eq_getElem?_getD, hc1]; rfl
    have hu3 := o.get (.tail _ (.tail _ (.tail _ (.tail _ (.tail _ (.tail _ hu1))))))
    have hu4 := o.get (.tail _ (.tail _ (.tail _ (.tail _ (.tail _ (.tail _ hu2))))))
    refine ⟨o.get (.tail _ (.tail _ (.tail _ (.tail _ (.tail _ (.head _)))))), Asg.tup (AsgL.cons (Asg.name (AsgL.cons (Asg.name (AsgL.nil ?_)))))⟩
    have a1 : (stV lb codes (i + 1)).last = bif is (lb c) "SP" then (stV lb codes i).last else i := by rw [hstep]; rfl
    have a2 : (stV lb codes (i + 1)).many = bif is (lb c) "RI" then (stV lb codes i).many + 1 else 0 := by rw [hstep]; rfl
    have a3 : (stV lb codes (i + 1)).num = (is (lb c) "NU" || ((stV lb codes i).num && inl (lb c) INNER)) := by rw [hstep]; rfl
    refine' Ex.asg (EvP.to (EvP.conv (d' := .int (stV lb codes (i + 1)).last) (EvP.ifxI ?w1 (fun _ => ?w2) (fun _ => ?w3)) ?w4) (Asg.name ?_))
    case w1 => tb_start
    case w2 => tb_start
    case w3 => tb_start
    case w4 => rw [a1]; rfl
    refine' Ex.asg (EvP.to (EvP.conv (d' := .int (stV lb codes (i + 1)).many) (EvP.ifxI ?w1 (fun _ => ?w2) (fun _ => ?w3)) ?w4) (Asg.name ?_))
    case w1 => tb_start
    case w2 => tb_start
    case w3 => tb_start
    case w4 => rw [a2]; rfl
    refine' Ex.asg (EvP.to (EvP.conv (d' := .bool (stV lb codes (i + 1)).num) (EvP.orB ?w1 (fun _ => EvP.one (EvP.and ?w2 (fun _ => EvP.one ?w3)))) ?w4) (Asg.name ?_))
    case w1 => tb_start
    case w2 => tb_start
    case w3 => tb_start
    case w4 => rw [a3]; rfl
    refine Ex.append (EvP.attr (EvP.loc (by ktr_rel)) (gp_LineView_solid (o.get (.tail _ (.tail _ (.tail _ (.tail _ (.head _)))))) (o.get (.tail _ (.tail _ (.tail _ (.head _))))) rfl)) (o.get (.tail _ (.tail _ (.head _)))) (EvP.to (EvP.loc (by ktr_rel)) ?_)
    refine ⟨_, o.get (.tail _ (.tail _ (.head _))), by simp; rw [sizeLine_eq]; one_sign, ?_⟩
    have o1 := o.upd (y := .lst ((List.range i).map (fun j => D.int (stV lb codes (j + 1)).last) ++ [.int (stV lb codes (i + 1)).last])) 2 rfl
    revert o1; generalize H'.set so _ = H1; intro o1
    refine Ex.append (EvP.attr (EvP.loc (by ktr_rel)) (gp_LineView_regional (o1.get (.tail _ (.tail _ (.tail _ (.tail _ (.head _)))))) (o1.get (.tail _ (.tail _ (.tail _ (.head _))))) rfl)) (o1.get (.tail _ (.head _))) (EvP.to (EvP.loc (by ktr_rel)) ?_)
    refine ⟨_, o1.get (.tail _ (.head _)), by simp; rw [sizeLine_eq]; one_sign, ?_⟩
    have o2 := o1.upd (y := .lst ((List.range i).map (fun j => D.int (stV lb codes (j + 1)).many) ++ [.int (stV lb codes (i + 1)).many])) 1 rfl
    revert o2; generalize H1.set re _ = H2; intro o2
    refine Ex.append (EvP.attr (EvP.loc (by ktr_rel)) (gp_LineView_numeric (o2.get (.tail _ (.tail _ (.tail _ (.tail _ (.head _)))))) (o2.get (.tail _ (.tail _ (.tail _ (.head _))))) rfl)) (o2.get (.head _)) (EvP.to (EvP.loc (by ktr_rel)) ?_)
    refine ⟨_, o2.get (.head _), by simp; rw [sizeLine_eq]; one_sign, ?_⟩
    have o3 := o2.upd (y := .lst ((List.range i).map (fun j => D.bool (stV lb codes (j + 1)).num) ++ [.bool (stV lb codes (i + 1)).num])) 0 rfl
    revert o3; generalize H2.set nu _ = H3; intro o3
    refine Ex.nil ⟨by ktr_rel, by ktr_rel, by ktr_rel, by ktr_rel, ?_⟩
    rw [← range_snoc (f := fun j => D.int (stV lb codes (j + 1)).last), ← range_snoc (f := fun j => D.int (stV lb codes (j + 1)).many), ← range_snoc (f := fun j => D.bool (stV lb codes (j + 1)).num)]
    exact o3
  · rintro m H' ⟨m1, m2, m3, m4, o⟩
    rw [enuL_len, List.length_map, hl] at o
    refine ⟨o.get (.tail _ (.tail _ (.tail _ (.tail _ (.tail _ (.head _)))))), Ex.nil ⟨rfl, ?_⟩⟩
    refine q ⟨x, dx, hw, dh, fa, so, re, nu, da, xs⟩ _ H' rfl o (fun H'' has w1 w2 => view_of has hz (.tail _ (.tail _ (.tail _ (.tail _ (.head _))))) (.tail _ (.tail _ (.tail _ (.head _)))) (.tail _ (.tail _ (.tail _ (.tail _ (.tail _ (.head _)))))) (u_of.mono fun p hp => .tail _ (.tail _ (.tail _ (.tail _ (.tail _ (.tail _ hp)))))) hl w1 w2 (.tail _ (.tail _ (.head _))) (.tail _ (.head _)) (.head _))
end

noncomputable def okV (x : Str) : Bool := okW x && !jamo x && !is x "EM" && !is x "RI"
noncomputable def okT : D → Bool
  | .none => true
  | .tup [.str _, .str _] => true
  | _ => false
noncomputable def pairT : D → Bool
  | .tup [.str _, .str _] => true
  | _ => false
theorem okT_bif {c : Bool} {x y : D} (a : okT x = true) (b : okT y = true) : okT (bif c then x else y) = true := by cases c <;> assumption
theorem okT_or {x y : D} (a : okT x = true) (b : okT y = true) : okT (vOr x y) = true := by unfold vOr; cases truth x <;> assumption
theorem pairT_or {x y : D} (a : okT x = true) (b : pairT y = true) : pairT (vOr x y) = true := by
  unfold okT at a
  split at a
  · exact b
  · rfl
  · cases a
theorem okT_m (a b : Str) : okT (.tup [.str a, .str b]) = true := rfl
theorem okT_n : okT .none = true := rfl
section
variable {w : World} {mg mb : Str → Option Value} {lo : Lo} {n : Nat} {H : Hp} {lb gc ea : Int → Str}

local macro_rules | `(tactic| ktr_units) => `(tactic| (repeat' first | exact okT_m _ _ | exact okT_n | apply okT_bif))
theorem verdict_pair (V : Vw) (gc ea : Int → Str) (p : Int) : pairT (verdict V gc ea p) = true := by
  have e1 : okT (rExpr V p) = true := by unfold rExpr; ktr_units
  have e2 : okT (rNumbers V p) = true := by unfold rNumbers; apply okT_bif e1; ktr_units
  unfold verdict
  refine pairT_or (okT_or (okT_or (okT_or (okT_or ?_ (okT_or ?_ ?_)) (okT_or ?_ (okT_or ?_ ?_))) (okT_or ?_ (okT_or ?_ e2))) (okT_or ?_ (okT_or ?_ ?_))) (pairT_or ?_ rfl)
  · unfold rHard; ktr_units
  · unfold rSpaces; ktr_units
  · unfold rGlue; ktr_units
  · unfold rClosing; ktr_units
  · unfold rQuotes; ktr_units
  · unfold rOver; ktr_units
  · unfold rSigns; ktr_units
  · unfold rLetters; ktr_units
  · unfold rSyll; ktr_units
  · unfold rAksaras; ktr_units
  · unfold rBrackets; ktr_units
  · unfold rPict; ktr_units
theorem pair_of {d : D} (h : pairT d = true) : ∃ a b, d = .tup [.str a, .str b] := by
  unfold pairT at h; split at h
  · exact ⟨_, _, rfl⟩
  · cases h
theorem mkV_W {codes : List Int} {S N : Str} {kp : Bool} {p : Int} {c : Int} (h0 : 0 ≤ p) (h : codes[p.toNat]? = some c) : (mkV lb codes S N kp).W p = lb c := by
  have hl : p.toNat < codes.length := (List.getElem?_eq_some_iff.mp h).1
  unfold Vw.W
  rw [mkV_len, if_pos ⟨h0, by one_sign⟩]
  simp [mkV, h]
noncomputable def verL (V : Vw) (gc ea : Int → Str) (i : Nat) : List D := (List.range (V.us.length + 1)).map fun (k : Nat) => if k = 0 then no "LB2" else if k = V.us.length then must "LB3" else if k ≤ i then verdict V gc ea k else no "LB9"
theorem verL_len (V : Vw) (gc ea : Int → Str) (i : Nat) : (verL V gc ea i).length = V.us.length + 1 := by simp [verL]
theorem verL_zero {V : Vw} (h : 1 ≤ V.us.length) : ((List.replicate (V.us.length + 1) (no "LB9")).set V.us.length (must "LB3")).set 0 (no "LB2") = verL V gc ea 0 := by
  apply List.ext_getElem
  · simp [verL]
  · intro k h1 h2
    simp only [List.length_set, List.length_replicate] at h1
    simp only [List.getElem_set, List.getElem_replicate, verL, List.getElem_map, List.getElem_range]
    by_cases a : k = 0
    · subst a; simp
    · by_cases b : k = V.us.length
      · subst b; simp [a, Ne.symm a]
      · have : ¬ k ≤ 0 := by one_sign
        simp [a, b, Ne.symm a, Ne.symm b]
theorem verL_step {V : Vw} {i : Nat} (h : i + 1 < V.us.length) : (verL V gc ea i).set (i + 1) (verdict V gc ea ((i + 1 : Nat) : Int)) = verL V gc ea (i + 1) := by
  apply List.ext_getElem
  · simp [verL]
  · intro k h1 h2
    simp only [List.getElem_set, verL, List.getElem_map, List.getElem_range]
    by_cases a : k = 0
    · subst a; simp
    · by_cases b : k = V.us.length
      · subst b
        have : ¬ i + 1 = V.us.length := by one_sign
        simp [a, this]
      · by_cases c : i + 1 = k
        · subst c; simp [b]
        · have e : (k ≤ i + 1) = (k ≤ i) := propext (by one_sign)
          simp [a, b, c, e]
theorem rngL_inv {lo hi : Int} {i : Nat} {d : D} (h : (rngL lo hi)[i]? = some d) : d = .int (lo + i) ∧ i < (hi - lo).toNat := by
  have hl : i < (hi - lo).toNat := by have := (List.getElem?_eq_some_iff.mp h).1; rwa [rngL_len] at this
  rw [rngL_get lo hi hl] at h; cases h; exact ⟨rfl, hl⟩
theorem line_verdicts_ok {t da hw dh : Addr} {codes : List Int} {S N : Str} {kp : Bool} {Q : D → Hp → Prop} (ht : H t = some (.lst (codes.map .int))) (hz : codes.length ≤ 100) (h1 : 1 ≤ codes.length)
    (hD : ∀ H', Sub H H' → DatOk (mkG w mg mb lo) (n + 3) H' da lb gc ea) (hw1 : H hw = some (.ins 122 dh)) (hw2 : H dh = some (.dct (howD S N kp))) (hS : is S "strict" = true)
    (hc : ∀ c ∈ codes, 0 ≤ c ∧ okV (lb c) = true)
    (q : ∀ a L H', Own H H' ((a, .lst (verL (mkV lb codes S N kp) gc ea (codes.length - 1))) :: L) → Q (.ref a) H') : CalC (mkG w mg mb lo) (n + 9) H (.ref 343) [.ref t, .ref da, .ref hw] Q := by
  have hN := mkV_len lb codes S N kp
  refine CalC.fn (es := [.ref t, .ref da, .ref hw]) [Str.ofString "text", Str.ofString "data", Str.ofString "how"] (by ktr_unf) (by ktr_unf) (fun B T s vs k i => BindsTo.three (fun a b c => rfl) i) (fun L hL => ?_)
  refine Ex.asg (Ev.bin (Ev.lst (EvL.cons (EvP.to (EvP.tup (EvPL.cons EvP.cstr (EvPL.cons EvP.cstr EvPL.nil))) (EvL.nil ⟨by decide, fun a0 ha0 _ => ?_⟩)))))
  refine EvP.to (EvP.bin (EvP.callB (id := "len") (by ktr_unf) rfl (EvPL.cons (EvP.loc rfl) EvPL.nil) (CalP.lenL (Hp.keep ha0 ht) (by simp; one_sign))) EvP.cint BinP.add) ?_
  refine Bin.mulL (LstAt.own (Hp.set_self ..)) (by one_sign) (by simp; one_sign) (by decide) (fun c hc0 => Asg.name ?_)
  have o0 := ((Own.refl H).alloc (x := .lst [no "LB9"]) ha0).alloc (x := .lst (List.replicate ((mkV lb codes S N kp).us.length + 1) (no "LB9"))) hc0
  have e0 : ∀ (x : Nat) (y : D), (List.replicate x [y]).flatten = List.replicate x y := fun x y => by
    induction x with
    | zero => rfl
    | succ x ih => rw [List.replicate_succ, List.flatten_cons, ih, List.replicate_succ]; rfl
  have e1 : ((((codes.map D.int).length : Nat) : Int) + 1).toNat = (mkV lb codes S N kp).us.length + 1 := by rw [hN]; simp
  rw [e1, e0]
  replace o0 := o0.weak (L' := [(c, .lst (List.replicate ((mkV lb codes S N kp).us.length + 1) (no "LB9")))]) (by simp)
  revert o0
  generalize eH : (H.set a0 (X.lst [no "LB9"])).set c (X.lst (List.replicate ((mkV lb codes S N kp).us.length + 1) (no "LB9"))) = H0
  intro o0
  replace eH : (H.set a0 (X.lst [.tup [.str (Str.ofString "no"), .str (Str.ofString "LB9")]])).set c (X.lst (List.replicate ((mkV lb codes S N kp).us.length + 1) (.tup [.str (Str.ofString "no"), .str (Str.ofString "LB9")]))) = H0 := eH
  rw [eH]; clear eH
  have tx := o0.sub _ _ ht
  refine Ex.asgI (EvP.to (EvP.tup (EvPL.cons EvP.cstr (EvPL.cons EvP.cstr EvPL.nil))) (EvP.to (EvP.loc lset_self) (EvP.to (EvP.callB (id := "len") (by ktr_unf) rfl (EvPL.cons (EvP.loc rfl) EvPL.nil) (CalP.lenL tx (by simp; one_sign))) ?_)))
  refine SetI.lst (o0.get (.head _)) (by one_sign) (by simp [hN]; one_sign) (by simp [hN]; one_sign) ?_
  have o1 := o0.upd (y := .lst ((List.replicate ((mkV lb codes S N kp).us.length + 1) (no "LB9")).set (mkV lb codes S N kp).us.length (must "LB3"))) 0 rfl
  rw [show (((codes.map D.int).length : Nat) : Int).toNat = (mkV lb codes S N kp).us.length by rw [hN]; simp]
  revert o1
  generalize eH : H0.set c (X.lst ((List.replicate ((mkV lb codes S N kp).us.length + 1) (no "LB9")).set (mkV lb codes S N kp).us.length (must "LB3"))) = H1
  intro o1
  replace eH : H0.set c (X.lst ((List.replicate ((mkV lb codes S N kp).us.length + 1) (no "LB9")).set (mkV lb codes S N kp).us.length (.tup [.str (Str.ofString "must"), .str (Str.ofString "LB3")]))) = H1 := eH
  rw [eH]; clear eH
  refine Ex.asgI (EvP.to (EvP.tup (EvPL.cons EvP.cstr (EvPL.cons EvP.cstr EvPL.nil))) (EvP.to (EvP.loc lset_self) (EvP.cint.to ?_)))
  refine SetI.lst (o1.get (.head _)) (by one_sign) (by simp [hN]) (by simp [hN]; one_sign) ?_
  have o2 := o1.upd (y := .lst (((List.replicate ((mkV lb codes S N kp).us.length + 1) (no "LB9")).set (mkV lb codes S N kp).us.length (must "LB3")).set 0 (no "LB2"))) 0 rfl
  revert o2
  generalize eH : H1.set c (X.lst (((List.replicate ((mkV lb codes S N kp).us.length + 1) (no "LB9")).set (mkV lb codes S N kp).us.length (must "LB3")).set 0 (no "LB2"))) = H2
  intro o2
  replace eH : H1.set c (X.lst (((List.replicate ((mkV lb codes S N kp).us.length + 1) (no "LB9")).set (mkV lb codes S N kp).us.length (must "LB3")).set (0 : Int).toNat (.tup [.str (Str.ofString "no"), .str (Str.ofString "LB2")]))) = H2 := eH
  rw [eH]; clear eH
  rw [verL_zero (gc := gc) (ea := ea) (by rw [hN]; exact h1)] at o2
  clear o0 o1
  refine Ex.asg (Ev.callG (by ktr_unf) (by ktr_unf) (EvL.cons (EvP.to (EvP.loc rfl) (EvL.cons (EvP.to (EvP.loc rfl) (EvL.cons (EvP.to (EvP.loc rfl) (EvL.nil ?_))))))))
  refine CalC.cal (CalC.le (LineView_ok (n := n) (o2.sub _ _ ht) hz (fun H' s => hD H' (o2.sub.trans s)) (o2.sub _ _ hw1) (o2.sub _ _ hw2) hS (fun c h => ⟨(hc c h).1, (by have := (hc c h).2; unfold okV at this; simp only [Bool.and_eq_true] at this; exact this.1.1.1)⟩) (fun A LV H3 hda o3 hV => Asg.name ?_)) (by one_sign))
  have oV : Own H H3 ((c, .lst (verL (mkV lb codes S N kp) gc ea 0)) :: LV) := (o2.trans o3).perm (List.perm_append_singleton ..)
  have vw : ∀ {H' F}, Own H H' ((c, X.lst F) :: LV) → View H' A (mkV lb codes S N kp) := fun o => hV _ (fun p hp => o.has p (.tail _ hp)) (o.sub _ _ hw1) (o.sub _ _ hw2)
  clear o2 o3
  have v0 := vw oV
  refine Ex.forRng2 (by one_sign) (by ktr_unf) rfl EvP.cint (EvP.callB (id := "len") (by ktr_unf) rfl (EvPL.cons (EvP.attr (EvP.loc rfl) (gp_LineView_units v0.v v0.dv rfl)) EvPL.nil) (CalP.lenL v0.un (by have := v0.len; simp; one_sign))) (by one_sign) (by one_sign) (by one_sign) (by have := v0.len; simp; one_sign) rfl ?_
  refine Lp.inv (fun i m H' => m (Str.ofString "found") = some (.ref c) ∧ m (Str.ofString "view") = some (.ref A.v) ∧ Own H H' ((c, .lst (verL (mkV lb codes S N kp) gc ea i)) :: LV)) ?_ ?_ ⟨rfl, rfl, oV⟩
  · rintro i d m H' hi ⟨m1, m2, o⟩
    obtain ⟨rfl, hl⟩ := rngL_inv hi
    have v := vw o
    have hl' : i + 1 < codes.length := by have := v0.len; simp at hl; one_sign
    refine ⟨trivial, Asg.name ?_⟩
    have hi : (1 : Int) + i = ((i + 1 : Nat) : Int) := by one_sign
    rw [hi]
    have hcod : (mkV lb codes S N kp).codes := fun U hU => by
      obtain ⟨k, hk, e⟩ := List.mem_iff_getElem.mp hU
      simp only [mkV, List.getElem_mapIdx] at e
      rw [← e]; exact (hc _ (List.getElem_mem _)).1
    have wd : ∀ p : Int, 0 ≤ p → p < codes.length → okV ((mkV lb codes S N kp).W p) = true := fun p h0 hp => by
      have hp' : p.toNat < codes.length := by one_sign
      rw [mkV_W h0 (List.getElem?_eq_getElem hp')]
      exact (hc _ (List.getElem_mem _)).2
    have w1 := wd (((i + 1 : Nat) : Int) - 1) (by one_sign) (by one_sign)
    have w2 := wd ((i + 1 : Nat) : Int) (by one_sign) (by one_sign)
    unfold okV at w1 w2
    simp only [Bool.and_eq_true, Bool.not_eq_true'] at w1 w2
    obtain ⟨u, du, U, a, b, c1, d1⟩ := v.at (i := i + 1) (by rw [hN]; exact hl')
    have hU : U.p = ((i + 1 : Nat) : Int) := by
      simp only [mkV, List.getElem?_mapIdx] at b
      rw [List.getElem?_eq_getElem hl'] at b
      simp at b; rw [← b]; rfl
    refine Ex.asgI (EvP.to (EvP.callD (by ktr_unf) (EvP.glob (by ktr_unf) IsTop.ref) (EvPL.cons (EvP.loc (lset_get (by decide) m2)) (EvPL.cons (EvP.loc lset_self) EvPL.nil)) (verdict_ok v (hda ▸ hD _ o.sub) hcod _ (by one_sign) (by rw [hN]; one_sign) w1.1.1.2 w2.1.2 w1.2)) (EvP.to (EvP.loc (lset_get (by decide) m1)) (EvP.to (EvP.attr (EvP.item (EvP.attr (EvP.loc (lset_get (by decide) m2)) (gp_LineView_units v.v v.dv rfl)) (EvP.loc lset_self) (ItemP.lst v.un (by one_sign) a v.len'.1)) (gp_LineUnit_at c1 d1 rfl)) ?_)))
    rw [hU]
    have hvl := verL_len (mkV lb codes S N kp) gc ea i
    refine SetI.lst (o.get (.head _)) (by one_sign) (by rw [hvl, hN]; one_sign) (by rw [hvl, hN]; one_sign) (Ex.nil ⟨lset_get (by decide) m1, lset_get (by decide) m2, ?_⟩)
    rw [← verL_step (gc := gc) (ea := ea) (by rw [hN]; exact hl')]
    exact o.upd 0 rfl
  · rintro m H' ⟨m1, m2, o⟩
    refine ⟨trivial, Ex.ret (EvP.to (EvP.loc m1) (q c LV _ ?_))⟩
    rw [rngL_len] at o
    rw [show codes.length - 1 = (((A.ua.map D.ref).length : Nat) - 1 : Int).toNat by have := v0.len; simp; one_sign]
    exact o
end

noncomputable def fstD : D → D
  | .tup (a :: _) => a
  | _ => .none
noncomputable def sndD : D → D
  | .tup [_, b] => b
  | _ => .none
noncomputable def brkD (da hw : Addr) : List (D × D) := [(ss "data", .ref da), (ss "how", .ref hw)]
structure BrkAt (H : Hp) (x dx da hw dh : Addr) (S N : Str) (kp : Bool) : Prop where
  x : H x = some (.ins 394 dx)
  dx : H dx = some (.dct (brkD da hw))
  hw : H hw = some (.ins 122 dh)
  dh : H dh = some (.dct (howD S N kp))
theorem BrkAt.sub {H H' : Hp} {x dx da hw dh : Addr} {S N : Str} {kp : Bool} (h : BrkAt H x dx da hw dh S N kp) (s : Sub H H') : BrkAt H' x dx da hw dh S N kp := ⟨s _ _ h.x, s _ _ h.dx, s _ _ h.hw, s _ _ h.dh⟩
section
variable {w : World} {mg mb : Str → Option Value} {lo : Lo} {n : Nat} {H : Hp} {lb gc ea : Int → Str}

theorem BindsTo.dfltG {G : Gd} {B : Heap} {s : Shared} {fd : FuncData} {vs ws : List Value} {es : List D} {ks : List Str} {a : Addr} {items : List Value} {c : Nat} {dd : Option Addr} {sl : Array (Option Value)} {k : Option (Array Value) → Sem (List (Str × Value))} (T : TopOk G B) (kp : ∀ b o, B.get? b = some o → s.heap.get? b = some o)
    (hd : fd.defaults = .ref a) (ho : G.K.lookup a = some ⟨.type "tuple", dd, .seq items.toArray c, sl⟩) (h₁ : bindArgs fd ⟨vs, []⟩ = seqItems? fd.defaults >>= k) (h₂ : k (some items.toArray) = pure (ks.zip ws)) (i : IsL s.heap ws es) : ∃ ws, BindsTo s fd ⟨vs, []⟩ (ks.zip ws) ∧ IsL s.heap ws es :=
  BindsTo.dflt (ds := []) hd (kp _ _ (T.k _ _ ho)) rfl h₁ h₂ i
theorem LineHow0_ok {Q : D → Hp → Prop} (q : ∀ x dx H', Own H H' [(x, .ins 122 dx), (dx, .dct (howD (Str.ofString "strict") (Str.ofString "pairs") false))] → Q (.ref x) H') : CalC (mkG w mg mb lo) (n + 3) H (.ref 122) [] Q := by
  refine CalC.cls (fI := 119) (by ktr_unf) (by ktr_unf) (by ktr_unf) (fun x dx hx hdx hne => ?_)
  refine CalC.fn (es := [.ref x, ss "strict", .bool false, ss "pairs"]) [Str.ofString "self", Str.ofString "strictness", Str.ofString "keep_all", Str.ofString "numbers"] (by ktr_unf) (by ktr_unf) (fun B T s vs k i => ?_) (fun L hL => ?_)
  · cases i with | @cons v0 _ _ _ a i =>
    cases i
    refine' BindsTo.dfltG (ws := [v0, .str (Str.ofString "strict") _, .bool false, .str (Str.ofString "pairs") _]) T k rfl ?h0 ?h1 ?h2 ?h3
    case h0 => ktr_unf
    case h1 => rfl
    case h2 => rfl
    case h3 => exact .cons a (.cons (.str _ _) (.cons (.bool _) (.cons (.str _ _) .nil)))
  have o0 : Own H ((H.set dx (.dct [])).set x (.ins 122 dx)) [(x, .ins 122 dx), (dx, .dct [])] := inst_own hx hdx hne
  refine Ex.iteP (x := false) ?t1 (fun h => by cases h) (fun _ => Ex.nil ?_)
  case t1 =>
    refine' EvPB.conv ?t2 ?t3
    case t2 => tb_start
    case t3 => decide
  refine Ex.iteP (x := false) ?t1 (fun h => by cases h) (fun _ => Ex.nil ?_)
  case t1 =>
    refine' EvPB.conv ?t2 ?t3
    case t2 => tb_start
    case t3 => decide
  refine Ex.asgA ((EvP.loc rfl).to ((EvP.loc rfl).to (sa_LineHow_strictness inst_x (inst_dx hne) (Nat.le_of_ble_eq_true rfl) ?_)))
  rw [show ((H.set dx (.dct [])).set x (.ins 122 dx)) = inst H x dx 122 [] from rfl, inst_set hne]
  refine Ex.asgA ((EvP.loc rfl).to ((EvP.loc rfl).to (sa_LineHow_keep_all inst_x (inst_dx hne) (Nat.le_of_ble_eq_true rfl) ?_)))
  rw [inst_set hne]
  refine Ex.asgA ((EvP.loc rfl).to ((EvP.loc rfl).to (sa_LineHow_numbers inst_x (inst_dx hne) (Nat.le_of_ble_eq_true rfl) ?_)))
  rw [inst_set hne]
  exact Ex.nil ⟨rfl, q x dx _ (inst_own hx hdx hne)⟩
theorem LineHow3_ok {Q : D → Hp → Prop} (q : ∀ x dx H', Own H H' [(x, .ins 122 dx), (dx, .dct (howD (Str.ofString "strict") (Str.ofString "expression") false))] → Q (.ref x) H') : CalC (mkG w mg mb lo) (n + 3) H (.ref 122) [ss "strict", .bool false, ss "expression"] Q := by
  refine CalC.cls (fI := 119) (by ktr_unf) (by ktr_unf) (by ktr_unf) (fun x dx hx hdx hne => ?_)
  refine CalC.fn (es := [.ref x, ss "strict", .bool false, ss "expression"]) [Str.ofString "self", Str.ofString "strictness", Str.ofString "keep_all", Str.ofString "numbers"] (by ktr_unf) (by ktr_unf) (fun B T s vs k i => ?_) (fun L hL => ?_)
  · cases i with | @cons v0 _ _ _ a i =>
    cases i with | @cons v1 _ _ _ a1 i =>
    cases i with | @cons v2 _ _ _ a2 i =>
    cases i with | @cons v3 _ _ _ a3 i =>
    cases i
    refine' BindsTo.dfltG (ws := [v0, v1, v2, v3]) T k rfl ?h0 ?h1 ?h2 ?h3
    case h0 => ktr_unf
    case h1 => rfl
    case h2 => rfl
    case h3 => exact .cons a (.cons a1 (.cons a2 (.cons a3 .nil)))
  refine Ex.iteP (x := false) ?t1 (fun h => by cases h) (fun _ => Ex.nil ?_)
  case t1 =>
    refine' EvPB.conv ?t2 ?t3
    case t2 => tb_start
    case t3 => decide
  refine Ex.iteP (x := false) ?t1 (fun h => by cases h) (fun _ => Ex.nil ?_)
  case t1 =>
    refine' EvPB.conv ?t2 ?t3
    case t2 => tb_start
    case t3 => decide
  refine Ex.asgA ((EvP.loc rfl).to ((EvP.loc rfl).to (sa_LineHow_strictness inst_x (inst_dx hne) (Nat.le_of_ble_eq_true rfl) ?_)))
  rw [show ((H.set dx (.dct [])).set x (.ins 122 dx)) = inst H x dx 122 [] from rfl, inst_set hne]
  refine Ex.asgA ((EvP.loc rfl).to ((EvP.loc rfl).to (sa_LineHow_keep_all inst_x (inst_dx hne) (Nat.le_of_ble_eq_true rfl) ?_)))
  rw [inst_set hne]
  refine Ex.asgA ((EvP.loc rfl).to ((EvP.loc rfl).to (sa_LineHow_numbers inst_x (inst_dx hne) (Nat.le_of_ble_eq_true rfl) ?_)))
  rw [inst_set hne]
  exact Ex.nil ⟨rfl, q x dx _ (inst_own hx hdx hne)⟩
theorem LineBreaks1_ok {da : Addr} {Q : D → Hp → Prop} (q : ∀ x dx hw dh H', Own H H' [(hw, .ins 122 dh), (dh, .dct (howD (Str.ofString "strict") (Str.ofString "pairs") false)), (x, .ins 394 dx), (dx, .dct (brkD da hw))] → Q (.ref x) H') : CalC (mkG w mg mb lo) (n + 6) H (.ref 394) [.ref da] Q := by
  refine CalC.cls (fI := 358) (by ktr_unf) (by ktr_unf) (by ktr_unf) (fun x dx hx hdx hne => ?_)
  refine CalC.fn (es := [.ref x, .ref da, .none]) [Str.ofString "self", Str.ofString "data", Str.ofString "how"] (by ktr_unf) (by ktr_unf) (fun B T s vs k i => ?_) (fun L hL => ?_)
  · cases i with | @cons v0 _ _ _ a i =>
    cases i with | @cons v1 _ _ _ a1 i =>
    cases i
    refine' BindsTo.dfltG (ws := [v0, v1, .none]) T k rfl ?h0 ?h1 ?h2 ?h3
    case h0 => ktr_unf
    case h1 => rfl
    case h2 => rfl
    case h3 => exact .cons a (.cons a1 (.cons .none .nil))
  have o0 : Own H ((H.set dx (.dct [])).set x (.ins 394 dx)) [(x, .ins 394 dx), (dx, .dct [])] := inst_own hx hdx hne
  revert o0 hL; generalize (H.set dx (.dct [])).set x (.ins 394 dx) = H0; intro hL o0
  refine Ex.asgA ((EvP.loc rfl).to ((EvP.loc rfl).to (sa_LineBreaks_data (o0.get (.head _)) (o0.get (.tail _ (.head _))) (Nat.le_of_ble_eq_true rfl) ?_)))
  have o1 := o0.upd (y := .dct (sput (Str.ofString "data") (.ref da) [])) 1 rfl
  revert o1; generalize H0.set dx _ = H1; intro o1
  refine Ex.asgA (Ev.ifx (EvPB.to (b := false) ?t1 ⟨fun h => (by cases h), fun _ => ?_⟩))
  case t1 => exact EvPB.cmp (EvP.loc rfl) EvP.cnone CmpP.isnot
  refine Ev.callG0 (by ktr_unf) (by ktr_unf) (CalC.cal (CalC.le (LineHow0_ok (n := n) fun hw dh H2 o2 => ?_) (by one_sign)))
  have o3 := o1.trans o2
  refine (EvP.loc rfl).to (sa_LineBreaks_how (o3.get (.tail _ (.tail _ (.head _)))) (o3.get (.tail _ (.tail _ (.tail _ (.head _))))) (Nat.le_of_ble_eq_true rfl) (Ex.nil ⟨rfl, q x dx hw dh _ ?_⟩))
  exact o3.upd (y := .dct (brkD da hw)) 3 rfl
theorem LineBreaks2_ok {da hw : Addr} {Q : D → Hp → Prop} (q : ∀ x dx H', Own H H' [(x, .ins 394 dx), (dx, .dct (brkD da hw))] → Q (.ref x) H') : CalC (mkG w mg mb lo) (n + 6) H (.ref 394) [.ref da, .ref hw] Q := by
  refine CalC.cls (fI := 358) (by ktr_unf) (by ktr_unf) (by ktr_unf) (fun x dx hx hdx hne => ?_)
  refine CalC.fn (es := [.ref x, .ref da, .ref hw]) [Str.ofString "self", Str.ofString "data", Str.ofString "how"] (by ktr_unf) (by ktr_unf) (fun B T s vs k i => ?_) (fun L hL => ?_)
  · cases i with | @cons v0 _ _ _ a i =>
    cases i with | @cons v1 _ _ _ a1 i =>
    cases i with | @cons v2 _ _ _ a2 i =>
    cases i
    refine' BindsTo.dfltG (ws := [v0, v1, v2]) T k rfl ?h0 ?h1 ?h2 ?h3
    case h0 => ktr_unf
    case h1 => rfl
    case h2 => rfl
    case h3 => exact .cons a (.cons a1 (.cons a2 .nil))
  have o0 : Own H ((H.set dx (.dct [])).set x (.ins 394 dx)) [(x, .ins 394 dx), (dx, .dct [])] := inst_own hx hdx hne
  revert o0 hL; generalize (H.set dx (.dct [])).set x (.ins 394 dx) = H0; intro hL o0
  refine Ex.asgA ((EvP.loc rfl).to ((EvP.loc rfl).to (sa_LineBreaks_data (o0.get (.head _)) (o0.get (.tail _ (.head _))) (Nat.le_of_ble_eq_true rfl) ?_)))
  have o1 := o0.upd (y := .dct (sput (Str.ofString "data") (.ref da) [])) 1 rfl
  revert o1; generalize H0.set dx _ = H1; intro o1
  refine Ex.asgA (Ev.ifx (EvPB.to (b := true) ?t1 ⟨fun _ => ?_, fun h => by cases h⟩))
  case t1 => exact EvPB.cmp (EvP.loc rfl) EvP.cnone CmpP.isnot
  refine EvP.to (EvP.loc rfl) ?_
  refine (EvP.loc rfl).to (sa_LineBreaks_how (o1.get (.head _)) (o1.get (.tail _ (.head _))) (Nat.le_of_ble_eq_true rfl) (Ex.nil ⟨rfl, q x dx _ ?_⟩))
  exact o1.upd (y := .dct (brkD da hw)) 1 rfl
theorem verL_pair {V : Vw} {i : Nat} {d : D} (h : d ∈ verL V gc ea i) : ∃ a b, d = .tup [.str a, .str b] := by
  obtain ⟨k, _, rfl⟩ := List.mem_map.mp h
  split
  · exact ⟨_, _, rfl⟩
  · split
    · exact ⟨_, _, rfl⟩
    · split
      · exact pair_of (verdict_pair V gc ea k)
      · exact ⟨_, _, rfl⟩
theorem opps_ok {x dx hw dh da t : Addr} {codes : List Int} {S N : Str} {kp : Bool} {Q : D → Hp → Prop} (hB : BrkAt H x dx da hw dh S N kp) (ht : H t = some (.lst (codes.map .int))) (hz : codes.length ≤ 100) (h1 : 1 ≤ codes.length)
    (hD : ∀ H', Sub H H' → DatOk (mkG w mg mb lo) (n + 3) H' da lb gc ea) (hS : is S "strict" = true)
    (hc : ∀ c ∈ codes, 0 ≤ c ∧ okV (lb c) = true)
    (q : ∀ a H', Own H H' [(a, .lst ((verL (mkV lb codes S N kp) gc ea (codes.length - 1)).map fstD))] → Q (.ref a) H') : CalC (mkG w mg mb lo) (n + 10) H (.ref 363) [.ref x, .ref t] Q := by
  refine CalC.fn (es := [.ref x, .ref t]) [Str.ofString "self", Str.ofString "text"] (by ktr_unf) (by ktr_unf) (fun B T s vs k i => BindsTo.two (fun a b => rfl) i) (fun L hL => ?_)
  refine Ex.ret (Ev.comp (cl := []) (by one_sign) ?_ ?hcl)
  case hcl => rfl
  refine Ev.locs (Ev.callG (by ktr_unf) (by ktr_unf) (EvL.cons (EvP.to (EvP.loc rfl) (EvL.cons (EvP.to (EvP.attr (EvP.loc rfl) (gp_LineBreaks_data hB.x hB.dx rfl)) (EvL.cons (EvP.to (EvP.attr (EvP.loc rfl) (gp_LineBreaks_how hB.x hB.dx rfl)) (EvL.nil ?_))))))))
  refine CalC.cal (line_verdicts_ok ht hz h1 hD hB.hw hB.dh hS hc fun a L1 H1 o hL1 => ?_)
  have hlen := verL_len (mkV lb codes S N kp) gc ea (codes.length - 1)
  rw [mkV_len] at hlen
  refine ⟨_, _, _, _, Itr.lst (o.get (.head _)), rfl, hL1, by rw [hlen, sizeLine_eq]; one_sign, fun C hC hCL => ?_⟩
  refine Lc.inv (fun i m H' acc => Own H H' ((a, .lst (verL (mkV lb codes S N kp) gc ea (codes.length - 1))) :: L1) ∧ acc = ((verL (mkV lb codes S N kp) gc ea (codes.length - 1)).take i).map fstD) ?_ ?_ ⟨o, by simp⟩
  · rintro i d m H' acc hi ⟨o', rfl⟩
    obtain ⟨x1, x2, rfl⟩ := verL_pair (List.mem_of_getElem? hi)
    refine ⟨o'.get (.head _), Asg.tup (AsgL.cons (Asg.name (AsgL.cons (Asg.name (AsgL.nil ?_)))))⟩
    refine ⟨fun _ => EvP.to (EvP.loc (lset_get (by decide) lset_self)) ⟨o', ?_⟩, fun h => by cases h⟩
    rw [List.take_succ, hi, List.map_append]; rfl
  · rintro m H' acc ⟨o', rfl⟩
    refine ⟨o'.get (.head _), fun b hb _ => q b _ ?_⟩
    rw [List.take_length]
    exact (o'.alloc hb).weak (by simp)
end

noncomputable def RM.put (M : RM) (f l : Int) (x : Str) : RM :=
  let low := halfP M.st (f - 1) + 1
  let high := halfP M.st (l + 1) + 1
  let behind := M.vs.getD (high - 1).toNat ⟨#[]⟩
  let b1 := decide (l < 1114111) && !(behind == x)
  let st1 := bif b1 then [f, l + 1] else [f]
  let vs1 := bif b1 then [x, behind] else [x]
  let b2 := decide (low > 0) && (M.vs.getD (low - 1).toNat ⟨#[]⟩ == x)
  let st2 := bif b2 then st1.drop 1 else st1
  let vs2 := bif b2 then vs1.drop 1 else vs1
  ⟨M.st.take low.toNat ++ st2 ++ M.st.drop high.toNat, M.vs.take low.toNat ++ vs2 ++ M.vs.drop high.toNat, M.df⟩
section
variable {w : World} {mg mb : Str → Option Value} {lo : Lo} {n : Nat} {H : Hp}

theorem range_are_like_ok (a b : Str) : CalP (mkG w mg mb lo) (n + 1) H (.ref 405) [.str a, .str b] (.bool (a == b)) := by
  refine CalP.fn (es := [.str a, .str b]) [Str.ofString "one", Str.ofString "other"] (by ktr_unf) (by ktr_unf) (fun B T s vs k i => BindsTo.two (fun a b => rfl) i) (fun L hL => ?_)
  refine ExP.conv (d := .bool (deq (.str a) (.str b) && deq (.bool false) (.bool false))) (ExP.ret (EvP.and (EvP.cmp (EvP.loc rfl) (EvP.loc rfl) CmpP.eq) fun _ => EvP.one (EvP.cmp ?_ ?_ CmpP.eq))) (by show D.bool ((a == b) && true) = _; rw [Bool.and_true])
  · exact EvP.callB (id := "isinstance") (by ktr_unf) rfl (EvPL.cons (EvP.loc rfl) (EvPL.cons (EvP.builtT (by ktr_unf) rfl) EvPL.nil)) (CalP.isB rfl)
  · exact EvP.callB (id := "isinstance") (by ktr_unf) rfl (EvPL.cons (EvP.loc rfl) (EvPL.cons (EvP.builtT (by ktr_unf) rfl) EvPL.nil)) (CalP.isB rfl)
theorem RangeMap_ok {df : Str} {Q : D → Hp → Prop} (q : ∀ r rx s v H', Own H H' [(v, .lst [.str df]), (s, .lst [.int 0]), (r, .ins 450 rx), (rx, .dct (rmD ⟨[0], [df], df⟩ s v))] → Q (.ref r) H') : CalC (mkG w mg mb lo) (n + 2) H (.ref 450) [.str df] Q := by
  refine CalC.cls (fI := 419) (by ktr_unf) (by ktr_unf) (by ktr_unf) (fun x dx hx hdx hne => ?_)
  refine CalC.fn (es := [.ref x, .str df]) [Str.ofString "self", Str.ofString "default"] (by ktr_unf) (by ktr_unf) (fun B T s vs k i => BindsTo.two (fun a b => rfl) i) (fun L hL => ?_)
  have o0 : Own H ((H.set dx (.dct [])).set x (.ins 450 dx)) [(x, .ins 450 dx), (dx, .dct [])] := inst_own hx hdx hne
  revert o0 hL; generalize (H.set dx (.dct [])).set x (.ins 450 dx) = H0; intro hL o0
  refine Ex.asgA ((EvP.loc rfl).to ((EvP.loc rfl).to (sa_RangeMap_default (o0.get (.head _)) (o0.get (.tail _ (.head _))) (Nat.le_of_ble_eq_true rfl) ?_)))
  have o1 := o0.upd (y := .dct (sput (Str.ofString "default") (.str df) [])) 1 rfl
  revert o1; generalize H0.set dx _ = H1; intro o1
  refine Ex.asgA (Ev.lst (EvL.cons (EvP.cint.to (EvL.nil ⟨by decide, fun s hs _ => ?_⟩))))
  have o2 := o1.alloc (x := .lst [.int 0]) hs
  refine (EvP.loc rfl).to (sa_RangeMap_starts (o2.get (.tail _ (.head _))) (o2.get (.tail _ (.tail _ (.head _)))) (Nat.le_of_ble_eq_true rfl) ?_)
  have o3 := o2.upd (y := .dct (sput (Str.ofString "starts") (.ref s) (sput (Str.ofString "default") (.str df) []))) 2 rfl
  revert o3; generalize (H1.set s _).set dx _ = H3; intro o3
  clear o0 o1 o2 hs
  refine Ex.asgA (Ev.lst (EvL.cons (EvP.to (EvP.loc rfl) (EvL.nil ⟨Nat.le_of_ble_eq_true rfl, fun v hv _ => ?_⟩))))
  have o4 := o3.alloc (x := .lst [.str df]) hv
  refine (EvP.loc rfl).to (sa_RangeMap_values (o4.get (.tail _ (.tail _ (.head _)))) (o4.get (.tail _ (.tail _ (.tail _ (.head _))))) (Nat.le_of_ble_eq_true rfl) (Ex.nil ⟨rfl, q x dx s v _ ?_⟩))
  exact o4.upd (y := .dct (rmD ⟨[0], [df], df⟩ s v)) 3 rfl
theorem rm_put_ok {H0 : Hp} {r rx s v : Addr} {M : RM} {L0 : List (Addr × X)} {f l : Int} {x : Str} {Q : D → Hp → Prop} (o : Own H0 H ((rx, .dct (rmD M s v)) :: L0)) (hr : (r, X.ins 450 rx) ∈ L0) (hs : (s, X.lst (M.st.map .int)) ∈ L0) (hv : (v, X.lst (M.vs.map .str)) ∈ L0) (hM : M.Ok)
    (h0 : 0 ≤ f) (h1 : f ≤ l) (h2 : l < 1000000) (q : ∀ s' v' H', Own H0 H' ((rx, .dct (rmD (M.put f l x) s' v')) :: (s', .lst ((M.put f l x).st.map .int)) :: (v', .lst ((M.put f l x).vs.map .str)) :: L0) → Q .none H') :
    CalC (mkG w mg mb lo) (n + 2) H (.ref 433) [.ref r, .int f, .int l, .str x] Q := by
  refine CalC.fn (es := [.ref r, .int f, .int l, .str x]) [Str.ofString "self", Str.ofString "first", Str.ofString "last", Str.ofString "value"] (by ktr_unf) (by ktr_unf) (fun B T s vs k i => BindsTo.four (fun a b c d => rfl) i) (fun L hL => ?_)
  have l0 := hM.len
  have l1 := hM.big
  obtain ⟨a1, a2⟩ := halfP_lt M.st (f - 1)
  obtain ⟨b1, b2⟩ := halfP_lt M.st (l + 1)
  have b0 := halfP_nonneg M.st (l + 1) hM.ne (by rw [hM.z]; omega)
  refine Ex.iteP (x := false) ?t1 (fun h => by cases h) (fun _ => Ex.nil ?_)
  case t1 =>
    refine EvPB.conv (b := decide (f > l)) ?_ (decide_eq_false (by omega))
    exact EvPB.cmp (EvP.loc rfl) (EvP.loc rfl) CmpP.gt
  have pr := o.get (.tail _ hr)
  have px := o.get (.head _)
  have ps := o.get (.tail _ hs)
  have pv := o.get (.tail _ hv)
  refine Ex.asg (EvP.to (EvP.bin (EvP.callD (f := 61) (by ktr_unf) (EvP.glob (by ktr_unf) IsTop.ref) (EvPL.cons (EvP.attr (EvP.loc rfl) (gp_RangeMap_starts pr px rfl)) (EvPL.cons (EvP.bin (EvP.loc rfl) EvP.cint BinP.sub) EvPL.nil)) (place_by_half_ok ps (by omega) _)) EvP.cint BinP.add) (Asg.name ?_))
  refine Ex.asg (EvP.to (EvP.bin (EvP.callD (f := 61) (by ktr_unf) (EvP.glob (by ktr_unf) IsTop.ref) (EvPL.cons (EvP.attr (EvP.loc rfl) (gp_RangeMap_starts pr px rfl)) (EvPL.cons (EvP.bin (EvP.loc rfl) EvP.cint BinP.add) EvPL.nil)) (place_by_half_ok ps (by omega) _)) EvP.cint BinP.add) (Asg.name ?_))
  have item : ∀ k : Int, 0 ≤ k → k < M.st.length → (M.vs.map D.str)[k.toNat]? = some (.str (M.vs.getD k.toNat ⟨#[]⟩)) := fun k g1 g2 => by
    have : k.toNat < M.vs.length := by omega
    simp [List.getD_eq_getElem?_getD, this]
  refine Ex.asg (EvP.to (EvP.item (EvP.attr (EvP.loc rfl) (gp_RangeMap_values pr px rfl)) (EvP.bin (EvP.loc rfl) EvP.cint BinP.sub) (ItemP.lst pv (by omega) (item _ (by omega) (by omega)) (by simp; omega))) (Asg.name ?_))
  -- the two lists
  refine Ex.asgS (names := [Str.ofString "starts", Str.ofString "values"]) ?_
  refine Ev.tup (EvL.cons (Ev.lst (EvL.cons (EvP.to (EvP.loc rfl) (EvL.nil ⟨Nat.le_of_ble_eq_true rfl, fun sa hsa _ => ?_⟩)))))
  refine EvL.cons (Ev.lst (EvL.cons (EvP.to (EvP.loc rfl) (EvL.nil ⟨Nat.le_of_ble_eq_true rfl, fun va hva _ => EvL.nil ⟨Nat.le_of_ble_eq_true rfl, _, rfl, rfl, rfl, rfl, rfl, rfl, ?_⟩⟩))))
  have o1 : Own H0 _ ((va, .lst [.str x]) :: (sa, .lst [.int f]) :: (rx, .dct (rmD M s v)) :: L0) := (o.alloc hsa).alloc hva
  revert o1; generalize (H.set sa _).set va _ = H1; intro o1
  generalize hB : M.vs.getD (halfP M.st (l + 1) + 1 - 1).toNat ⟨#[]⟩ = behind
  generalize hlow : halfP M.st (f - 1) + 1 = low at *
  generalize hhigh : halfP M.st (l + 1) + 1 = high at *
  have st1 : ∀ b : Bool, (bif b then [D.int f, D.int (l + 1)] else [D.int f]) = (bif b then [f, l + 1] else [f]).map D.int := fun b => by cases b <;> rfl
  refine Ex.iteJ (b := decide (l < 1114111) && !(behind == x)) (P := fun m' H' => (m' (Str.ofString "self") = some (.ref r) ∧ m' (Str.ofString "low") = some (.int low) ∧ m' (Str.ofString "high") = some (.int high) ∧ m' (Str.ofString "value") = some (.str x) ∧ m' (Str.ofString "starts") = some (.ref sa) ∧ m' (Str.ofString "values") = some (.ref va)) ∧
    Own H0 H' ((va, .lst ((bif decide (l < 1114111) && !(behind == x) then [x, behind] else [x]).map .str)) :: (sa, .lst ((bif decide (l < 1114111) && !(behind == x) then [f, l + 1] else [f]).map .int)) :: (rx, .dct (rmD M s v)) :: L0)) ?_ (fun e => ?_) (fun e => ?_) ?_
  · refine EvPB.and (EvPB.cmp (EvP.loc rfl) (EvP.glob (v := .int 1114111 _) (by ktr_unf) (IsTop.s rfl)) CmpP.lt) fun _ => EvPB.and1 (EvPB.not (EvPB.plain (EvP.callD (f := 405) (by ktr_unf) (EvP.glob (by ktr_unf) IsTop.ref) (EvPL.cons (EvP.loc rfl) (EvPL.cons (EvP.loc rfl) EvPL.nil)) (range_are_like_ok behind x)) TruP.bool))
  · rw [e]
    refine Ex.append (EvP.loc rfl) (o1.get (.tail _ (.head _))) (EvP.to (EvP.bin (EvP.loc rfl) EvP.cint BinP.add) ⟨_, o1.get (.tail _ (.head _)), Nat.le_of_ble_eq_true rfl, ?_⟩)
    have o2 := o1.upd (y := .lst ([.int f] ++ [.int (l + 1)])) 1 rfl
    revert o2; generalize H1.set sa _ = H2; intro o2
    refine Ex.append (EvP.loc rfl) (o2.get (.head _)) (EvP.to (EvP.loc rfl) ⟨_, o2.get (.head _), Nat.le_of_ble_eq_true rfl, Ex.nil ⟨rfl, ⟨rfl, rfl, rfl, rfl, rfl, rfl⟩, ?_⟩⟩)
    exact o2.upd (y := .lst ([.str x] ++ [.str behind])) 0 rfl
  · rw [e]; exact ⟨⟨rfl, rfl, rfl, rfl, rfl, rfl⟩, o1⟩
  clear o1
  rintro m1 H2 ⟨⟨m1, m2, m3, m4, m5, m6⟩, o2⟩
  generalize hst1 : (bif decide (l < 1114111) && !(behind == x) then [f, l + 1] else [f]) = st1 at o2
  generalize hvs1 : (bif decide (l < 1114111) && !(behind == x) then [x, behind] else [x]) = vs1 at o2
  have ls1 : st1.length ≤ 2 := by rw [← hst1]; cases (decide (l < 1114111) && !(behind == x)) <;> simp
  have lv1 : vs1.length ≤ 2 := by rw [← hvs1]; cases (decide (l < 1114111) && !(behind == x)) <;> simp
  have pr := o2.get (.tail _ (.tail _ (.tail _ hr)))
  have px := o2.get (.tail _ (.tail _ (.head _)))
  have ps := o2.get (.tail _ (.tail _ (.tail _ hs)))
  have pv := o2.get (.tail _ (.tail _ (.tail _ hv)))
  refine Ex.iteJ (b := decide (low > 0) && (M.vs.getD (low - 1).toNat ⟨#[]⟩ == x)) (P := fun m' H' => ∃ sb vb, (m' (Str.ofString "self") = some (.ref r) ∧ m' (Str.ofString "low") = some (.int low) ∧ m' (Str.ofString "high") = some (.int high) ∧ m' (Str.ofString "starts") = some (.ref sb) ∧ m' (Str.ofString "values") = some (.ref vb)) ∧
    Own H0 H' ((vb, .lst ((bif decide (low > 0) && (M.vs.getD (low - 1).toNat ⟨#[]⟩ == x) then vs1.drop 1 else vs1).map .str)) :: (sb, .lst ((bif decide (low > 0) && (M.vs.getD (low - 1).toNat ⟨#[]⟩ == x) then st1.drop 1 else st1).map .int)) :: (rx, .dct (rmD M s v)) :: L0)) ?_ (fun e => ?_) (fun e => ?_) ?_
  · refine EvPB.and (EvPB.cmp (EvP.loc m2) EvP.cint CmpP.gt) fun hp => EvPB.and1 (EvPB.plain (EvP.callD (f := 405) (by ktr_unf) (EvP.glob (by ktr_unf) IsTop.ref) (EvPL.cons ?_ (EvPL.cons (EvP.loc m4) EvPL.nil)) (range_are_like_ok _ x)) TruP.bool)
    have hp' : low > 0 := of_decide_eq_true hp
    exact EvP.item (EvP.attr (EvP.loc m1) (gp_RangeMap_values pr px rfl)) (EvP.bin (EvP.loc m2) EvP.cint BinP.sub) (ItemP.lst pv (by omega) (item _ (by omega) (by omega)) (by simp; omega))
  · rw [e]
    refine Ex.asgS (names := [Str.ofString "starts", Str.ofString "values"]) ?_
    refine Ev.tup (EvL.cons (Ev.slc (EvP.to (EvP.loc m5) ⟨sa, _, _, _, _, rfl, LstAt.own (o2.get (.tail _ (.head _))), .yes EvP.cint, .no, .no, by simp, by simp; rw [sizeLine_eq]; omega, fun sb hsb => ?_⟩)))
    refine EvL.cons (Ev.slc (EvP.to (EvP.loc m6) ⟨va, _, _, _, _, rfl, LstAt.own (Hp.keep hsb (o2.get (.head _))), .yes EvP.cint, .no, .no, by simp, by simp; rw [sizeLine_eq]; omega, fun vb hvb => EvL.nil ⟨Nat.le_of_ble_eq_true rfl, _, rfl, rfl, rfl, rfl, rfl, rfl, Ex.nil ⟨rfl, sb, vb, ⟨?_, ?_, ?_, ?_, ?_⟩, ?_⟩⟩⟩))
    · ktr_rel
    · ktr_rel
    · ktr_rel
    · ktr_rel
    · ktr_rel
    · rw [pickL_from _ (by decide), pickL_from _ (by decide)]
      have o3 := ((o2.alloc hsb).alloc (x := .lst (pickL (vs1.map D.str) (some 1) none none)) hvb).weak (L' := (vb, _) :: (sb, _) :: (rx, .dct (rmD M s v)) :: L0) (.cons_cons _ (.cons_cons _ (.cons _ (.cons _ (.refl _)))))
      rw [pickL_from _ (by decide), pickL_from _ (by decide)] at o3
      simpa using o3
  · rw [e]; exact ⟨sa, va, ⟨m1, m2, m3, m5, m6⟩, o2⟩
  clear o2 pr px ps pv m1 m2 m3 m4 m5 m6
  rintro m2 H3 ⟨sb, vb, ⟨m1, m2, m3, m4, m5⟩, o3⟩
  generalize hst2 : (bif decide (low > 0) && (M.vs.getD (low - 1).toNat ⟨#[]⟩ == x) then st1.drop 1 else st1) = st2 at o3
  generalize hvs2 : (bif decide (low > 0) && (M.vs.getD (low - 1).toNat ⟨#[]⟩ == x) then vs1.drop 1 else vs1) = vs2 at o3
  have ls2 : st2.length ≤ 2 := by rw [← hst2]; cases (decide (low > 0) && (M.vs.getD (low - 1).toNat ⟨#[]⟩ == x)) <;> simp <;> omega
  have lv2 : vs2.length ≤ 2 := by rw [← hvs2]; cases (decide (low > 0) && (M.vs.getD (low - 1).toNat ⟨#[]⟩ == x)) <;> simp <;> omega
  have hput : M.put f l x = ⟨M.st.take low.toNat ++ st2 ++ M.st.drop high.toNat, M.vs.take low.toNat ++ vs2 ++ M.vs.drop high.toNat, M.df⟩ := by
    unfold RM.put
    simp only
    rw [hhigh, hB, hlow, hst1, hvs1, hst2, hvs2]
  have tk : ∀ {α : Type} (l : List α) (k : Int), 0 ≤ k → pickL l none (some k) none = l.take k.toNat := fun l k h => pickL_upto l h
  have dr : ∀ {α : Type} (l : List α) (k : Int), 0 ≤ k → pickL l (some k) none none = l.drop k.toNat := fun l k h => pickL_from l h
  have pr := o3.get (.tail _ (.tail _ (.tail _ hr)))
  have px := o3.get (.tail _ (.tail _ (.head _)))
  have ps := o3.get (.tail _ (.tail _ (.tail _ hs)))
  have sl : sizeLine = 16777216 := sizeLine_eq
  refine Ex.asgA (Ev.bin (Ev.bin (Ev.slc (EvP.to (EvP.attr (EvP.loc m1) (gp_RangeMap_starts pr px rfl)) ⟨s, _, _, _, _, rfl, LstAt.own ps, .no, .yes (EvP.loc m2), .no, by simp, by simp; omega, fun c1 h1 => ?_⟩))))
  refine EvP.to (EvP.loc m4) (Bin.addL (LstAt.own (Hp.set_self ..)) (LstAt.own (Hp.keep h1 (o3.get (.tail _ (.head _))))) ?z1 (fun c2 h2 => ?_))
  case z1 => rw [tk _ _ (by omega)]; simp; omega
  refine Ev.slc (EvP.to (EvP.attr (EvP.loc m1) (gp_RangeMap_starts (Hp.keep h2 (Hp.keep h1 pr)) (Hp.keep h2 (Hp.keep h1 px)) rfl)) ⟨s, _, _, _, _, rfl, LstAt.own (Hp.keep h2 (Hp.keep h1 ps)), .yes (EvP.loc m3), .no, .no, by simp, by simp; omega, fun c3 h3 => ?_⟩)
  refine Bin.addL (LstAt.own (Hp.keep h3 (Hp.set_self ..))) (LstAt.own (Hp.set_self ..)) ?z2 (fun s' h4 => ?_)
  case z2 => rw [tk _ _ (by omega), dr _ _ (by omega)]; simp; omega
  have o4 := (((o3.alloc (x := .lst (pickL (M.st.map .int) none (some low) none)) h1).alloc (x := .lst (pickL (M.st.map .int) none (some low) none ++ st2.map .int)) h2).alloc (x := .lst (pickL (M.st.map .int) (some high) none none)) h3).alloc (x := .lst (pickL (M.st.map .int) none (some low) none ++ st2.map .int ++ pickL (M.st.map .int) (some high) none none)) h4
  refine (EvP.loc m1).to (sa_RangeMap_starts (Hp.keep h4 (Hp.keep h3 (Hp.keep h2 (Hp.keep h1 pr)))) (Hp.keep h4 (Hp.keep h3 (Hp.keep h2 (Hp.keep h1 px)))) (Nat.le_of_ble_eq_true rfl) ?_)
  have o5 := (o4.upd (y := .dct [(ss "default", .str M.df), (ss "starts", .ref s'), (ss "values", .ref v)]) 6 rfl).weak (L' := (s', .lst (pickL (M.st.map .int) none (some low) none ++ st2.map .int ++ pickL (M.st.map .int) (some high) none none)) :: (vb, .lst (vs2.map .str)) :: (rx, .dct [(ss "default", .str M.df), (ss "starts", .ref s'), (ss "values", .ref v)]) :: L0) (.cons_cons _ (.cons _ (.cons _ (.cons _ (.cons_cons _ (.cons _ (.refl _)))))))
  revert o5
  generalize eH : ((((H3.set c1 _).set c2 _).set c3 _).set s' _).set rx (X.dct [(ss "default", .str M.df), (ss "starts", .ref s'), (ss "values", .ref v)]) = H4
  intro o5
  replace eH : ((((H3.set c1 (X.lst (pickL (M.st.map .int) none (some low) none))).set c2 (.lst (pickL (M.st.map .int) none (some low) none ++ st2.map .int))).set c3 (.lst (pickL (M.st.map .int) (some high) none none))).set s' (.lst (pickL (M.st.map .int) none (some low) none ++ st2.map .int ++ pickL (M.st.map .int) (some high) none none))).set rx (X.dct (sput (Str.ofString "starts") (.ref s') (rmD M s v))) = H4 := eH
  rw [eH]; clear eH o4 h1 h2 h3 h4 c1 c2 c3 pr px ps o3
  have pr := o5.get (.tail _ (.tail _ (.tail _ hr)))
  have px := o5.get (.tail _ (.tail _ (.head _)))
  have pv := o5.get (.tail _ (.tail _ (.tail _ hv)))
  refine Ex.asgA (Ev.bin (Ev.bin (Ev.slc (EvP.to (EvP.attr (EvP.loc m1) (gp_RangeMap_values pr px rfl)) ⟨v, _, _, _, _, rfl, LstAt.own pv, .no, .yes (EvP.loc m2), .no, by simp, by simp; omega, fun c1 h1 => ?_⟩))))
  refine EvP.to (EvP.loc m5) (Bin.addL (LstAt.own (Hp.set_self ..)) (LstAt.own (Hp.keep h1 (o5.get (.tail _ (.head _))))) ?z1 (fun c2 h2 => ?_))
  case z1 => rw [tk _ _ (by omega)]; simp; omega
  refine Ev.slc (EvP.to (EvP.attr (EvP.loc m1) (gp_RangeMap_values (Hp.keep h2 (Hp.keep h1 pr)) (Hp.keep h2 (Hp.keep h1 px)) rfl)) ⟨v, _, _, _, _, rfl, LstAt.own (Hp.keep h2 (Hp.keep h1 pv)), .yes (EvP.loc m3), .no, .no, by simp, by simp; omega, fun c3 h3 => ?_⟩)
  refine Bin.addL (LstAt.own (Hp.keep h3 (Hp.set_self ..))) (LstAt.own (Hp.set_self ..)) ?z2 (fun v' h4 => ?_)
  case z2 => rw [tk _ _ (by omega), dr _ _ (by omega)]; simp; omega
  have o6 := (((o5.alloc (x := .lst (pickL (M.vs.map .str) none (some low) none)) h1).alloc (x := .lst (pickL (M.vs.map .str) none (some low) none ++ vs2.map .str)) h2).alloc (x := .lst (pickL (M.vs.map .str) (some high) none none)) h3).alloc (x := .lst (pickL (M.vs.map .str) none (some low) none ++ vs2.map .str ++ pickL (M.vs.map .str) (some high) none none)) h4
  refine (EvP.loc m1).to (sa_RangeMap_values (Hp.keep h4 (Hp.keep h3 (Hp.keep h2 (Hp.keep h1 pr)))) (Hp.keep h4 (Hp.keep h3 (Hp.keep h2 (Hp.keep h1 px)))) (Nat.le_of_ble_eq_true rfl) (Ex.nil (q s' v' _ ?_)))
  have o7 := (o6.upd (y := .dct [(ss "default", .str M.df), (ss "starts", .ref s'), (ss "values", .ref v')]) 6 rfl).weak (L' := (v', .lst (pickL (M.vs.map .str) none (some low) none ++ vs2.map .str ++ pickL (M.vs.map .str) (some high) none none)) :: (s', .lst (pickL (M.st.map .int) none (some low) none ++ st2.map .int ++ pickL (M.st.map .int) (some high) none none)) :: (rx, .dct [(ss "default", .str M.df), (ss "starts", .ref s'), (ss "values", .ref v')]) :: L0) (.cons_cons _ (.cons _ (.cons _ (.cons _ (.cons_cons _ (.cons _ (.refl _)))))))
  have o8 := o7.perm (((List.Perm.swap _ _ _).cons _).trans ((List.Perm.swap _ _ _).trans ((List.Perm.swap _ _ _).cons _)))
  rw [hput]
  simp only [List.map_append, List.map_take, List.map_drop]
  rw [tk (M.vs.map D.str) _ (by omega), dr (M.vs.map D.str) _ (by omega)]
  rw [tk (M.vs.map D.str) _ (by omega), dr (M.vs.map D.str) _ (by omega), tk (M.st.map D.int) _ (by omega), dr (M.st.map D.int) _ (by omega)] at o8
  exact o8
end

structure Ent4 where
  k : Str
  r : Addr
  rx : Addr
  s : Addr
  v : Addr
  M : RM
noncomputable def Ent4.objs (e : Ent4) : List (Addr × X) := [(e.rx, .dct (rmD e.M e.s e.v)), (e.r, .ins 450 e.rx), (e.s, .lst (e.M.st.map .int)), (e.v, .lst (e.M.vs.map .str))]
noncomputable def mapsE (es : List Ent4) : List (D × D) := es.map fun e => (.str e.k, .ref e.r)
noncomputable def dbL (da dx a1 a2 a3 a4 : Addr) (dl : List (D × D)) (es : List Ent4) : List (Addr × X) :=
  (da, .ins 499 dx) :: (dx, .dct (dtD a1 a2 a3 a4)) :: (a1, .dct dl) :: (a2, .dct (mapsE es)) :: es.flatMap Ent4.objs
noncomputable def kms (es : List Ent4) : List (Str × RM) := es.map fun e => (e.k, e.M)
noncomputable def addL (k df : Str) (Ls : List (Str × RM)) : List (Str × RM) := if (Ls.any fun p => p.1 == k) then Ls else Ls ++ [(k, ⟨[0], [df], df⟩)]
noncomputable def updF (k : Str) (F : RM → RM) : List (Str × RM) → List (Str × RM)
  | [] => []
  | (j, M) :: r => if j = k then (j, F M) :: r else (j, M) :: updF k F r
noncomputable def mput (k df : Str) (f l : Int) (x : Str) (Ls : List (Str × RM)) : List (Str × RM) := updF k (fun M => M.put f l x) (addL k df Ls)
theorem updF_at {k : Str} {F : RM → RM} {M : RM} {B : List (Str × RM)} : ∀ {A : List (Str × RM)}, (∀ p ∈ A, p.1 ≠ k) → updF k F (A ++ (k, M) :: B) = A ++ (k, F M) :: B
  | [], _ => by simp [updF]
  | (j, N) :: A, h => by
    have : j ≠ k := h (j, N) (.head _)
    show (if j = k then _ else (j, N) :: updF k F (A ++ (k, M) :: B)) = _
    rw [if_neg this, updF_at fun p hp => h p (.tail _ hp)]; rfl
theorem mapsE_find (k : Str) : ∀ es : List Ent4, match kget (.inl k) (mapsE es) with
    | some d => ∃ A e B, es = A ++ e :: B ∧ e.k = k ∧ d = .ref e.r ∧ ∀ p ∈ A, p.k ≠ k
    | none => ∀ e ∈ es, e.k ≠ k
  | [] => fun e h => by cases h
  | e :: es => by
    have ih := mapsE_find k es
    show match kget (.inl k) ((.str e.k, .ref e.r) :: mapsE es) with | some d => _ | none => _
    unfold kget
    by_cases q : e.k = k
    · simp only [kt, q, decide_true, if_true]
      exact ⟨[], e, es, rfl, q, rfl, fun p hp => by cases hp⟩
    · simp only [kt, q, decide_false, Bool.false_eq_true, if_false]
      cases h : kget (.inl k) (mapsE es) with
      | some d =>
        rw [h] at ih
        obtain ⟨A, e', B, h1, h2, h3, h4⟩ := ih
        exact ⟨e :: A, e', B, by rw [h1]; rfl, h2, h3, fun p hp => by
          cases hp with
          | head => exact q
          | tail _ hp => exact h4 p hp⟩
      | none =>
        rw [h] at ih
        exact fun p hp => by
          cases hp with
          | head => exact q
          | tail _ hp => exact ih p hp
section
variable {w : World} {mg mb : Str → Option Value} {lo : Lo} {n : Nat} {H : Hp}

structure Dfl (l : List (D × D)) (b : Nat) : Prop where
  df : DF l
  nd : knodB l = true
  t : TFd l
  z : l.length ≤ b
theorem Dfl.put {l : List (D × D)} {b : Nat} {x : Str} {d : D} (h : Dfl l b) (hx : ¬ (x == Str.ofString "lb" || x == Str.ofString "gc" || x == Str.ofString "ea") = true) (hd : tf d = true) : Dfl (kput (.inl x) d l) (b + 1) := by
  simp only [Bool.or_eq_true, not_or, beq_iff_eq] at hx
  obtain ⟨⟨h1, h2⟩, h3⟩ := hx
  have ne : ∀ {y : Str}, ¬ x = y → (Sum.inl y : Ky) ≠ .inl x := fun h z => h (Sum.inl.inj z).symm
  exact ⟨⟨(kget_kput_ne (ne h1) l).trans h.df.lb, (kget_kput_ne (ne h2) l).trans h.df.gc, (kget_kput_ne (ne h3) l).trans h.df.ea⟩, knodB_kput h.nd, h.t.kput hd, Nat.le_trans (kput_len l) (Nat.succ_le_succ h.z)⟩
theorem Dfl.le {l : List (D × D)} {b c : Nat} (h : Dfl l b) (k : b ≤ c) : Dfl l c := ⟨h.df, h.nd, h.t, Nat.le_trans h.z k⟩
theorem fill_loop {env : Env} {m : Loc} {iter value : Expr} {pos pos' pos'' p1 p2 : Pos} {rest : List Stmt} {Q : Fl → Loc → Hp → Prop} {a : Addr} {H0 : Hp} {b : Nat} (ds : List D) (hn : 1 ≤ n) (hf : m (Str.ofString "found") = some (.ref a)) (ho : ∃ l, Own H0 H [(a, .dct l)] ∧ Dfl l b)
    (hi : EvP (mkG w mg mb lo) n env m H iter (.tup ds)) (hds : ds.all (fun d => match d with | .str x => !(x == Str.ofString "lb" || x == Str.ofString "gc" || x == Str.ofString "ea") | _ => false) = true) (hb : b + ds.length ≤ 100)
    (hv : ∀ m1 H1, m1 (Str.ofString "found") = some (.ref a) → ∀ Q : D → Hp → Prop, (∀ d, tf d = true → Q d H1) → Ev (mkG w mg mb lo) n env m1 H1 value Q)
    (h : ∀ m' H', m' (Str.ofString "found") = some (.ref a) → (∃ l, Own H0 H' [(a, .dct l)] ∧ Dfl l (b + ds.length)) → Ex (mkG w mg mb lo) n env m' H' rest Q)
    (hs : swapsWith value (some (.Subscript (.Name (Str.ofString "found") p1) (.Name (Str.ofString "name") p2) pos')) pos''.line env = pure false := by rfl)
    (hk : env.scope.kind = .function := by rfl) (hx1 : env.kindOf (Str.ofString "found") = some .local := by rfl) (hx2 : env.kindOf (Str.ofString "name") = some .local := by rfl)
    (hfo : ∀ y, foldedSetIterable iter env y = pure y := by intro _; rfl) {tp : Pos} :
    Ex (mkG w mg mb lo) n env m H (.For (.Name (Str.ofString "name") tp) iter [.Assign [.Subscript (.Name (Str.ofString "found") p1) (.Name (Str.ofString "name") p2) pos'] value pos''] [] pos :: rest) Q := by
  refine Ex.forTup hn hi rfl ?_ hfo
  refine Lp.inv (fun i m' H' => m' (Str.ofString "found") = some (.ref a) ∧ ∃ l, Own H0 H' [(a, .dct l)] ∧ Dfl l (b + i)) ?_ ?_ ⟨hf, ho⟩
  · rintro i e m1 H1 he ⟨m2, l, o, hl⟩
    have h1 := List.all_eq_true.mp hds e (List.mem_of_getElem? he)
    have hi : i < ds.length := (List.getElem?_eq_some_iff.mp he).1
    refine ⟨trivial, Asg.name ?_ hk hx2⟩
    cases e with
    | str x =>
      refine Ex.asgI (hv (lset m1 (Str.ofString "name") (.str x)) H1 (lset_get (by decide) m2) _ (fun d hd => EvP.to (EvP.loc (lset_get (by decide) m2) hk hx1) (EvP.to (EvP.loc lset_self hk hx2) ?_))) hs
      refine SetI.dct (k := .inl x) (o.get (.head _)) hl.nd (Ex.nil ⟨lset_get (by decide) m2, _, o.upd 0 rfl, hl.put (by simpa using h1) hd⟩) ?_
      have := hl.z; rw [sizeLine_eq]; one_sign
    | _ => cases h1
  · rintro m1 H1 ⟨m2, l, o, hl⟩
    exact ⟨trivial, h m1 H1 m2 ⟨l, o, hl⟩⟩
theorem EvD.cs {G : Gd} {env : Env} {m : Loc} {x : Str} {c : Nat} {kp pos : Pos} {e : Expr} {d : D} {ks : List (Option Expr)} {vs : List Expr} {Q : List (D × D) → Hp → Prop} (h : EvP G n env m H e d) (r : EvD G n env m H pos ks vs fun l H3 => Q ((.str x, d) :: l) H3) : EvD G n env m H pos (some (.Constant (.str x) c kp) :: ks) (e :: vs) Q :=
  EvD.cons (.inl x) (EvP.cstr.to ⟨rfl, h.to r⟩)
theorem data_defaults_ok {Q : D → Hp → Prop} (q : ∀ a l H', Own H H' [(a, .dct l)] → Dfl l 100 → Q (.ref a) H') : CalC (mkG w mg mb lo) (n + 2) H (.ref 461) [] Q := by
  refine CalC.fn (es := []) [] (by ktr_unf) (by ktr_unf) (fun B T s vs k i => ⟨[], by cases i; exact BindsTo.of_eq rfl, .nil⟩) (fun L hL => ?_)
  refine' Ex.asg ?x1 ?x2
  case x2 => rfl
  case x1 =>
  refine' Ev.dict ?a1 ?a2 ?a3 ?a4 ?a5
  case a2 => rfl
  case a3 => rfl
  case a4 => simp
  case a5 => decide
  case a1 =>
  refine EvD.cs EvP.cstr ?_
  refine EvD.cs EvP.cint ?_
  refine EvD.cs EvP.cstr ?_
  refine EvD.cs EvP.cstr ?_
  refine EvD.cs EvP.cstr ?_
  refine EvD.cs EvP.cstr ?_
  refine EvD.cs EvP.cstr ?_
  refine EvD.cs EvP.cstr ?_
  refine EvD.nil ⟨by decide +kernel, fun a ha => Asg.name ?_⟩
  have d0 : Dfl [(ss "gc", ss "Cn"), (ss "ccc", .int 0), (ss "bc", ss "L"), (ss "lb", ss "XX"), (ss "ea", ss "N"), (ss "sc", ss "Zzzz"), (ss "jt", ss "U"), (ss "incb", ss "None")] 8 := ⟨⟨rfl, rfl, rfl⟩, by decide +kernel, fun p hp => (by
    simp only [List.mem_cons, List.not_mem_nil, or_false] at hp
    rcases hp with rfl | rfl | rfl | rfl | rfl | rfl | rfl | rfl <;> rfl), Nat.le_refl _⟩
  have o0 : Own H (H.set a (.dct [(ss "gc", ss "Cn"), (ss "ccc", .int 0), (ss "bc", ss "L"), (ss "lb", ss "XX"), (ss "ea", ss "N"), (ss "sc", ss "Zzzz"), (ss "jt", ss "U"), (ss "incb", ss "None")])) [(a, .dct [(ss "gc", ss "Cn"), (ss "ccc", .int 0), (ss "bc", ss "L"), (ss "lb", ss "XX"), (ss "ea", ss "N"), (ss "sc", ss "Zzzz"), (ss "jt", ss "U"), (ss "incb", ss "None")])] := (Own.refl H).alloc ha
  revert o0; generalize H.set a _ = H1; intro o0
  have e3 : ∃ l, Own H H1 [(a, .dct l)] ∧ Dfl l 8 := ⟨_, o0, d0⟩
  clear o0 d0
  refine fill_loop (a := a) (b := 8) [ss "gcb", ss "wb", ss "sb"] (by one_sign) lset_self e3 (EvP.tup (by tb_start)) (by decide +kernel) (by decide) (fun m1 H1 hm Q q => EvP.cstr.to (q _ rfl)) ?_
  intro m2 H2 hm2 e4
  refine fill_loop (a := a) (b := 11) [ss "ex", ss "sd", ss "cased", ss "ci", ss "ep", ss "di", ss "ids", ss "idc", ss "xids", ss "xidc", ss "pat_syn", ss "pat_ws", ss "idst"] (by one_sign) hm2 e4 (EvP.tup (by tb_start)) (by decide +kernel) (by decide) (fun m1 H1 hm Q q => EvP.cbool.to (q _ rfl)) ?_
  intro m3 H3 hm3 e5
  refine fill_loop (a := a) (b := 24) [ss "dm", ss "uc", ss "lc", ss "tc", ss "cf", ss "bm", ss "bpb", ss "scx", ss "nt", ss "nv", ss "name", ss "conf", ss "nfkc_cf"] (by one_sign) hm3 e5 (EvP.tup (by tb_start)) (by decide +kernel) (by decide) (fun m1 H1 hm Q q => EvP.cnone.to (q _ rfl)) ?_
  intro m4 H4 hm4 e6
  refine fill_loop (a := a) (b := 37) [ss "suc", ss "slc", ss "stc", ss "alias"] (by one_sign) hm4 e6 (EvP.tup (by tb_start)) (by decide +kernel) (by decide) (fun m1 H1 hm Q q => Ev.opq (EvP.to (EvP.tup EvPL.nil) ⟨⟨_, rfl⟩, fun a => q _ rfl⟩)) ?_
  rintro m5 H5 hm5 ⟨l, o, hl⟩
  refine Ex.asgI (Ev.opq (EvP.to (EvP.tup (EvPL.cons EvP.cstr (EvPL.cons (EvP.tup EvPL.nil) EvPL.nil))) ⟨⟨_, rfl⟩, fun t => EvP.to (EvP.loc hm5) (EvP.cstr.to ?_)⟩))
  refine SetI.dct (k := .inl (Str.ofString "idna")) (o.get (.head _)) hl.nd (Ex.ret (EvP.to (EvP.loc hm5) (q a _ _ (o.upd 0 rfl) ((hl.put (by decide +kernel) rfl).le (by decide))))) ?_
  have := hl.z; rw [sizeLine_eq]; simp at this; one_sign
theorem Data_ok {Q : D → Hp → Prop} (q : ∀ da dx a1 a2 a3 a4 dl H', Dfl dl 100 → Own H H' (dbL da dx a1 a2 a3 a4 dl []) → Q (.ref da) H') : CalC (mkG w mg mb lo) (n + 4) H (.ref 499) [] Q := by
  refine CalC.cls (fI := 475) (by ktr_unf) (by ktr_unf) (by ktr_unf) (fun x dx hx hdx hne => ?_)
  refine CalC.fn (es := [.ref x]) [Str.ofString "self"] (by ktr_unf) (by ktr_unf) (fun B T s vs k i => BindsTo.one (fun a => rfl) i) (fun L hL => ?_)
  have o0 : Own H ((H.set dx (.dct [])).set x (.ins 499 dx)) [(x, .ins 499 dx), (dx, .dct [])] := inst_own hx hdx hne
  revert o0 hL; generalize (H.set dx (.dct [])).set x (.ins 499 dx) = H0; intro hL o0
  refine Ex.asgA (Ev.callG0 (by ktr_unf) (by ktr_unf) (CalC.cal (data_defaults_ok fun a1 dl H1 o1 hdl => ?_)))
  have o2 := o0.trans o1
  refine (EvP.loc rfl).to (sa_Data_defaults (o2.get (.tail _ (.head _))) (o2.get (.tail _ (.tail _ (.head _)))) (Nat.le_of_ble_eq_true rfl) ?_)
  have o3 := o2.upd (y := .dct (sput (Str.ofString "defaults") (.ref a1) [])) 2 rfl
  revert o3; generalize H1.set dx _ = H3; intro o3
  clear o0 o1 o2
  refine Ex.asgA (Ev.dict0 (fun a2 h2 => ?_))
  have o4 := o3.alloc (x := .dct []) h2
  refine (EvP.loc rfl).to (sa_Data_maps (o4.get (.tail _ (.tail _ (.head _)))) (o4.get (.tail _ (.tail _ (.tail _ (.head _))))) (Nat.le_of_ble_eq_true rfl) ?_)
  have o5 := o4.upd (y := .dct (sput (Str.ofString "maps") (.ref a2) (sput (Str.ofString "defaults") (.ref a1) []))) 3 rfl
  revert o5; generalize (H3.set a2 _).set dx _ = H5; intro o5
  clear o3 o4 h2
  refine Ex.asgA (Ev.dict0 (fun a3 h3 => ?_))
  have o6 := (o5.alloc (x := .dct []) h3)
  refine (EvP.loc rfl).to (sa_Data_properties (o6.get (.tail _ (.tail _ (.tail _ (.head _))))) (o6.get (.tail _ (.tail _ (.tail _ (.tail _ (.head _)))))) (Nat.le_of_ble_eq_true rfl) ?_)
  have o7 := o6.upd (y := .dct (sput (Str.ofString "properties") (.ref a3) (sput (Str.ofString "maps") (.ref a2) (sput (Str.ofString "defaults") (.ref a1) [])))) 4 rfl
  revert o7; generalize (H5.set a3 _).set dx _ = H7; intro o7
  clear o5 o6 h3
  refine Ex.asgA (Ev.dict0 (fun a4 h4 => ?_))
  have o8 := (o7.alloc (x := .dct []) h4)
  refine (EvP.loc rfl).to (sa_Data_words (o8.get (.tail _ (.tail _ (.tail _ (.tail _ (.head _)))))) (o8.get (.tail _ (.tail _ (.tail _ (.tail _ (.tail _ (.head _))))))) (Nat.le_of_ble_eq_true rfl) (Ex.nil ⟨rfl, q x dx a1 a2 a3 a4 dl _ hdl ?_⟩))
  have o9 := (o8.upd (y := .dct (dtD a1 a2 a3 a4)) 5 rfl).weak (L' := [(a2, .dct []), (a1, .dct dl), (x, .ins 499 dx), (dx, .dct (dtD a1 a2 a3 a4))]) (.cons _ (.cons _ (.refl _)))
  exact o9.perm (((List.reverse_perm _).symm).trans (List.Perm.swap _ _ _))
end

theorem RM.new_ok (df : Str) : RM.Ok ⟨[0], [df], df⟩ := ⟨rfl, by simp, by simp, rfl⟩
theorem mapsE_app (A B : List Ent4) : mapsE (A ++ B) = mapsE A ++ mapsE B := List.map_append
theorem mapsE_snoc {k : Str} {r : Addr} : ∀ {es : List Ent4}, (∀ e ∈ es, e.k ≠ k) → kput (.inl k) (.ref r) (mapsE es) = mapsE es ++ [(.str k, .ref r)]
  | [], _ => rfl
  | e :: es, h => by
    have : ¬ kt (.inl k) (.str e.k) = true := by simp [kt]; exact h e (.head _)
    show kput (.inl k) (.ref r) ((.str e.k, .ref e.r) :: mapsE es) = _
    unfold kput
    rw [if_neg this, mapsE_snoc fun p hp => h p (.tail _ hp)]; rfl
theorem addL_new {k df : Str} {es : List Ent4} (h : ∀ e ∈ es, e.k ≠ k) : addL k df (kms es) = kms es ++ [(k, ⟨[0], [df], df⟩)] := by
  unfold addL
  rw [if_neg]
  rw [Bool.not_eq_true, List.any_eq_false]
  intro p hp
  obtain ⟨e, he, rfl⟩ := List.mem_map.mp hp
  simpa using h e he
theorem addL_old {k df : Str} {es : List Ent4} {e : Ent4} (h : e ∈ es) (hk : e.k = k) : addL k df (kms es) = kms es := by
  unfold addL
  rw [if_pos]
  rw [List.any_eq_true]
  exact ⟨(e.k, e.M), List.mem_map.mpr ⟨e, h, rfl⟩, by simp [hk]⟩
section
variable {w : World} {mg mb : Str → Option Value} {lo : Lo} {n : Nat} {H : Hp}

theorem map_of_ok {H0 : Hp} {da dx a1 a2 a3 a4 : Addr} {dl : List (D × D)} {es : List Ent4} {k df : Str} {Q : D → Hp → Prop} (o : Own H0 H (dbL da dx a1 a2 a3 a4 dl es)) (hdl : kget (.inl k) dl = some (.str df)) (hnd : knodB (mapsE es) = true) (hz : es.length ≤ 100)
    (q : ∀ A e B H', e.k = k → (∀ p ∈ A, p.k ≠ k) → kms (A ++ e :: B) = addL k df (kms es) → knodB (mapsE (A ++ e :: B)) = true → Own H0 H' (dbL da dx a1 a2 a3 a4 dl (A ++ e :: B)) → Q (.ref e.r) H') :
    CalC (mkG w mg mb lo) (n + 4) H (.ref 496) [.ref da, .str k] Q := by
  have e1 := o.get (.head _)
  have e2 := o.get (.tail _ (.head _))
  have e3 := o.get (.tail _ (.tail _ (.head _)))
  have e4 := o.get (.tail _ (.tail _ (.tail _ (.head _))))
  refine CalC.fn (es := [.ref da, .str k]) [Str.ofString "self", Str.ofString "name"] (by ktr_unf) (by ktr_unf) (fun B T s vs k i => BindsTo.two (fun a b => rfl) i) (fun L hL => ?_)
  have hf := mapsE_find k es
  refine Ex.iteJ (b := !(kget (.inl k) (mapsE es)).isSome) (P := fun m' H' => m' (Str.ofString "self") = some (.ref da) ∧ m' (Str.ofString "name") = some (.str k) ∧ ∃ A e B, e.k = k ∧ (∀ p ∈ A, p.k ≠ k) ∧ kms (A ++ e :: B) = addL k df (kms es) ∧ knodB (mapsE (A ++ e :: B)) = true ∧ kget (.inl k) (mapsE (A ++ e :: B)) = some (.ref e.r) ∧ Own H0 H' (dbL da dx a1 a2 a3 a4 dl (A ++ e :: B))) ?_ (fun eb => ?_) (fun eb => ?_) ?_
  · exact EvPB.cmp (EvP.loc rfl) (EvP.attr (EvP.loc rfl) (gp_Data_maps e1 e2 rfl)) (CmpP.ninD (k := .inl k) (DctAt.own e4))
  · have eb' : kget (.inl k) (mapsE es) = none := by simpa using eb
    rw [eb'] at hf
    refine Ex.asgI (Ev.callG (by ktr_unf) (by ktr_unf) (EvL.cons (EvP.to (EvP.conv (d' := .str df) (EvP.dget hL (EvP.attr (EvP.loc rfl) (gp_Data_defaults e1 e2 rfl)) e3 (EvP.loc rfl)) (by rw [hdl]; rfl)) (EvL.nil (CalC.cal (CalC.le (RangeMap_ok (n := n) fun r rx s v H1 o1 => ?_) (by one_sign)))))))
    have o2 := o.trans o1
    have p2 := o2.get (.tail _ (.tail _ (.tail _ (.tail _ (.head _)))))
    have p3 := o2.get (.tail _ (.tail _ (.tail _ (.tail _ (.tail _ (.head _))))))
    have p4 := o2.get (.tail _ (.tail _ (.tail _ (.tail _ (.tail _ (.tail _ (.tail _ (.head _))))))))
    refine EvP.to (EvP.attr (EvP.loc rfl) (gp_Data_maps p2 p3 rfl)) (EvP.to (EvP.loc rfl) (SetI.dct (k := .inl k) p4 hnd (Ex.nil ⟨rfl, rfl, rfl, es, ⟨k, r, rx, s, v, ⟨[0], [df], df⟩⟩, [], rfl, hf, ?_, ?_, ?_, ?_⟩) ?_))
    · rw [addL_new hf]; unfold kms; rw [List.map_append]; rfl
    · rw [mapsE_app]; show knodB (mapsE es ++ [(.str k, .ref r)]) = true
      rw [← mapsE_snoc hf]; exact knodB_kput hnd
    · rw [mapsE_app]; show kget (.inl k) (mapsE es ++ [(.str k, .ref r)]) = _
      rw [← mapsE_snoc hf, kget_kput_self]
    · have o3 := o2.upd (y := .dct (kput (.inl k) (.ref r) (mapsE es))) 7 rfl
      refine o3.perm ?_
      rw [mapsE_snoc hf]
      show List.Perm ((v, _) :: (s, _) :: (r, _) :: (rx, _) :: (da, _) :: (dx, _) :: (a1, _) :: (a2, _) :: es.flatMap Ent4.objs) ((da, _) :: (dx, _) :: (a1, _) :: (a2, X.dct (mapsE (es ++ [_]))) :: (es ++ [_]).flatMap Ent4.objs)
      rw [mapsE_app, List.flatMap_append]
      show List.Perm ([(v, _), (s, _), (r, _), (rx, _)] ++ ((da, _) :: (dx, _) :: (a1, _) :: (a2, _) :: es.flatMap Ent4.objs)) (((da, _) :: (dx, _) :: (a1, _) :: (a2, _) :: es.flatMap Ent4.objs) ++ [(rx, _), (r, _), (s, _), (v, _)])
      refine (List.perm_append_comm).trans (List.Perm.append_left _ ?_)
      exact (List.reverse_perm _).symm.trans (List.Perm.refl _)
    · show (mapsE es).length ≤ sizeLine
      rw [sizeLine_eq]; unfold mapsE; rw [List.length_map]; one_sign
  · have eb' : ∃ d, kget (.inl k) (mapsE es) = some d := by
      cases h : kget (.inl k) (mapsE es) with
      | some d => exact ⟨d, rfl⟩
      | none => rw [h] at eb; cases eb
    obtain ⟨d, ed⟩ := eb'
    rw [ed] at hf
    obtain ⟨A, e, B, rfl, h2, rfl, h4⟩ := hf
    exact ⟨rfl, rfl, A, e, B, h2, h4, (addL_old (List.mem_append_right _ (.head _)) h2).symm, hnd, ed, o⟩
  · rintro m1 H1 ⟨m1, m2, A, e, B, g1, g2, g3, g4, g5, o1⟩
    have p1 := o1.get (.head _)
    have p2 := o1.get (.tail _ (.head _))
    have p4 := o1.get (.tail _ (.tail _ (.tail _ (.head _))))
    exact Ex.ret (EvP.to (EvP.item (EvP.attr (EvP.loc m1) (gp_Data_maps p1 p2 rfl)) (EvP.loc m2) (ItemP.dct (k := .inl k) (DctAt.own p4) g5)) (q A e B H1 g1 g2 g3 g4 o1))
end

structure DB (H0 H : Hp) (da : Addr) (Ls : List (Str × RM)) : Prop where
  ex : ∃ dx a1 a2 a3 a4 dl es, Dfl dl 100 ∧ kms es = Ls ∧ knodB (mapsE es) = true ∧ Own H0 H (dbL da dx a1 a2 a3 a4 dl es)
  ok : ∀ p ∈ Ls, p.2.Ok
theorem RM.put_new {df : Str} {Ls : List (Str × RM)} {k : Str} (h : ∀ p ∈ Ls, p.2.Ok) : ∀ p ∈ addL k df Ls, p.2.Ok := by
  unfold addL
  split
  · exact h
  · intro p hp
    rcases List.mem_append.mp hp with hp | hp
    · exact h p hp
    · rw [List.mem_singleton.mp hp]; exact RM.new_ok df
noncomputable def lsW (Ls : List (Str × RM)) (k d : Str) (c : Int) : Str := match Ls.lookup k with
  | some M => M.at c
  | none => d
section
variable {w : World} {mg mb : Str → Option Value} {lo : Lo} {n : Nat} {H : Hp}

theorem data_put_ok {H0 : Hp} {da : Addr} {Ls : List (Str × RM)} {k df x : Str} {f l : Int} {Q : D → Hp → Prop} (h : DB H0 H da Ls) (hdf : ∀ l, DF l → kget (.inl k) l = some (.str df)) (hz : Ls.length ≤ 90) (h0 : 0 ≤ f) (h1 : f ≤ l) (h2 : l < 1000000)
    (hok : ∀ p ∈ mput k df f l x Ls, p.2.Ok) (q : ∀ H', DB H0 H' da (mput k df f l x Ls) → Q .none H') : CalC (mkG w mg mb lo) (n + 5) H (.ref 482) [.ref da, .str k, .int f, .int l, .str x] Q := by
  obtain ⟨⟨dx, a1, a2, a3, a4, dl, es, hdl, rfl, hnd, o⟩, hM⟩ := h
  have e1 := o.get (.head _)
  have e2 := o.get (.tail _ (.head _))
  refine CalC.fn (es := [.ref da, .str k, .int f, .int l, .str x]) [Str.ofString "self", Str.ofString "name", Str.ofString "first", Str.ofString "last", Str.ofString "value"] (by ktr_unf) (by ktr_unf) (fun B T s vs kk i => ?_) (fun L hL => ?_)
  · cases i with | cons a i =>
    cases i with | cons b i =>
    cases i with | cons c i =>
    cases i with | cons d i =>
    cases i with | cons e i =>
    cases i
    exact ⟨_, BindsTo.of_eq rfl, .cons a (.cons b (.cons c (.cons d (.cons e .nil))))⟩
  refine Ex.expr ?_
  refine Ev.methE (C := 450) (f := 433) me_RangeMap_put.1 me_RangeMap_put.2.1 me_RangeMap_put.2.2.1 me_RangeMap_put.2.2.2 ?_
  refine Ev.meth (x := da) (C := 499) (dx := dx) (f := 496) me_Data_map_of.1 me_Data_map_of.2.1 me_Data_map_of.2.2.1 me_Data_map_of.2.2.2 (EvP.to (EvP.loc rfl) ⟨rfl, e1, e2, rfl, EvL.cons (EvP.to (EvP.loc rfl) (EvL.nil (CalC.cal (map_of_ok o (hdf dl hdl.df) hnd (by simpa [kms] using Nat.le_trans hz (by decide)) fun A e B H1 g1 g2 g3 g4 o1 => ?_))))⟩)
  have hrx : (e.rx, X.dct (rmD e.M e.s e.v)) ∈ dbL da dx a1 a2 a3 a4 dl (A ++ e :: B) := by
    refine .tail _ (.tail _ (.tail _ (.tail _ ?_)))
    rw [List.flatMap_append, List.flatMap_cons]
    exact List.mem_append_right _ (.head _)
  have hr : (e.r, X.ins 450 e.rx) ∈ dbL da dx a1 a2 a3 a4 dl (A ++ e :: B) := by
    refine .tail _ (.tail _ (.tail _ (.tail _ ?_)))
    rw [List.flatMap_append, List.flatMap_cons]
    exact List.mem_append_right _ (.tail _ (.head _))
  refine ⟨e.r, e.rx, rmD e.M e.s e.v, rfl, o1.get hr, o1.get hrx, rfl, ?_⟩
  refine EvL.cons (EvP.to (EvP.loc rfl) (EvL.cons (EvP.to (EvP.loc rfl) (EvL.cons (EvP.to (EvP.loc rfl) (EvL.nil (CalC.cal (CalC.le (n := n + 4) (k := n + 2) ?_ (by one_sign))))))))) 
  have hMe : e.M.Ok := by
    refine RM.put_new (k := k) (df := df) hM (e.k, e.M) ?_
    rw [← g3]; exact List.mem_map.mpr ⟨e, List.mem_append_right _ (.head _), rfl⟩
  have hp : (dbL da dx a1 a2 a3 a4 dl (A ++ e :: B)).Perm ((e.rx, X.dct (rmD e.M e.s e.v)) :: (((da, X.ins 499 dx) :: (dx, .dct (dtD a1 a2 a3 a4)) :: (a1, .dct dl) :: (a2, .dct (mapsE (A ++ e :: B))) :: A.flatMap Ent4.objs) ++ ((e.r, .ins 450 e.rx) :: (e.s, .lst (e.M.st.map .int)) :: (e.v, .lst (e.M.vs.map .str)) :: B.flatMap Ent4.objs))) := by
    unfold dbL
    rw [List.flatMap_append, List.flatMap_cons]
    exact List.perm_middle (l₁ := (da, X.ins 499 dx) :: (dx, .dct (dtD a1 a2 a3 a4)) :: (a1, .dct dl) :: (a2, .dct (mapsE (A ++ e :: B))) :: A.flatMap Ent4.objs)
  refine rm_put_ok (rx := e.rx) (s := e.s) (v := e.v) (M := e.M) (o1.perm hp) (List.mem_append_right _ (.head _)) (List.mem_append_right _ (.tail _ (.head _))) (List.mem_append_right _ (.tail _ (.tail _ (.head _)))) hMe h0 h1 h2 fun s' v' H2 o2 => Ex.nil (q H2 ⟨⟨dx, a1, a2, a3, a4, dl, A ++ { e with s := s', v := v', M := e.M.put f l x } :: B, hdl, ?_, ?_, ?_⟩, hok⟩)
  · unfold mput
    rw [← g3]
    have ha : ∀ p ∈ kms A, p.1 ≠ k := fun p hp => by obtain ⟨e', he', rfl⟩ := List.mem_map.mp hp; exact g2 e' he'
    have := updF_at (k := k) (F := fun M => M.put f l x) (M := e.M) (B := kms B) ha
    unfold kms at this ⊢
    rw [List.map_append, List.map_append, List.map_cons, List.map_cons, g1]
    exact this.symm
  · rw [mapsE_app] at g4 ⊢; exact g4
  · have o3 := o2.weak (L' := (e.rx, X.dct (rmD (e.M.put f l x) s' v')) :: (s', .lst ((e.M.put f l x).st.map .int)) :: (v', .lst ((e.M.put f l x).vs.map .str)) :: (((da, X.ins 499 dx) :: (dx, .dct (dtD a1 a2 a3 a4)) :: (a1, .dct dl) :: (a2, .dct (mapsE (A ++ e :: B))) :: A.flatMap Ent4.objs) ++ ((e.r, .ins 450 e.rx) :: B.flatMap Ent4.objs)))
      (.cons_cons _ (.cons_cons _ (.cons_cons _ (List.Sublist.append (.refl _) (.cons_cons _ (.cons _ (.cons _ (.refl _))))))))
    refine o3.perm ?_
    have hm : mapsE (A ++ { e with s := s', v := v', M := e.M.put f l x } :: B) = mapsE (A ++ e :: B) := by rw [mapsE_app, mapsE_app]; rfl
    unfold dbL
    rw [hm, List.flatMap_append, List.flatMap_cons]
    refine (List.perm_middle (l₁ := (e.rx, X.dct (rmD (e.M.put f l x) s' v')) :: (s', X.lst ((e.M.put f l x).st.map .int)) :: (v', X.lst ((e.M.put f l x).vs.map .str)) :: ((da, X.ins 499 dx) :: (dx, .dct (dtD a1 a2 a3 a4)) :: (a1, .dct dl) :: (a2, .dct (mapsE (A ++ e :: B))) :: A.flatMap Ent4.objs))).trans ?_
    refine (List.Perm.swap _ _ _).trans ?_
    show List.Perm ([(e.rx, X.dct (rmD (e.M.put f l x) s' v')), (e.r, X.ins 450 e.rx), (s', X.lst ((e.M.put f l x).st.map .int)), (v', X.lst ((e.M.put f l x).vs.map .str))] ++ (((da, X.ins 499 dx) :: (dx, .dct (dtD a1 a2 a3 a4)) :: (a1, .dct dl) :: (a2, .dct (mapsE (A ++ e :: B))) :: A.flatMap Ent4.objs) ++ B.flatMap Ent4.objs)) _
    exact List.perm_append_comm_assoc _ ((da, X.ins 499 dx) :: (dx, .dct (dtD a1 a2 a3 a4)) :: (a1, .dct dl) :: (a2, .dct (mapsE (A ++ e :: B))) :: A.flatMap Ent4.objs) _
theorem lsW_datW (k d : Str) (c : Int) : ∀ es : List Ent4, datW (es.map fun e => (e.k, e.r, e.M)) k d c = lsW (kms es) k d c
  | [] => rfl
  | e :: es => by
    have ih := lsW_datW k d c es
    unfold datW lsW kms at *
    rw [List.map_cons, List.map_cons, List.lookup_cons, List.lookup_cons]
    cases k == e.k with
    | true => rfl
    | false => exact ih
theorem DB.dat {H0 H' : Hp} {da : Addr} {Ls : List (Str × RM)} (h : DB H0 H da Ls) (s : Sub H H') : DatOk (mkG w mg mb lo) (n + 3) H' da (lsW Ls (Str.ofString "lb") (Str.ofString "XX")) (lsW Ls (Str.ofString "gc") (Str.ofString "Cn")) (lsW Ls (Str.ofString "ea") (Str.ofString "N")) := by
  obtain ⟨⟨dx, a1, a2, a3, a4, dl, es, hdl, rfl, hnd, o⟩, hM⟩ := h
  have hD : DataAt H da (es.map fun e => (e.k, e.r, e.M)) := by
    refine ⟨⟨dx, a1, a2, a3, a4, dl, o.get (.head _), o.get (.tail _ (.head _)), o.get (.tail _ (.tail _ (.head _))), hdl.df, (o.get (.tail _ (.tail _ (.tail _ (.head _))))).trans ?_⟩, fun p hp => ?_⟩
    · unfold mapsE mapsD; rw [List.map_map]; rfl
    · obtain ⟨e, he, rfl⟩ := List.mem_map.mp hp
      have hm : ∀ q ∈ e.objs, H q.1 = some q.2 := fun q hq => o.has q (.tail _ (.tail _ (.tail _ (.tail _ (List.mem_flatMap.mpr ⟨e, he, hq⟩)))))
      exact ⟨hM _ (List.mem_map.mpr ⟨e, he, rfl⟩), e.rx, e.s, e.v, hm _ (.tail _ (.head _)), hm _ (.head _), hm _ (.tail _ (.tail _ (.head _))), hm _ (.tail _ (.tail _ (.tail _ (.head _))))⟩
  have := (hD.sub s).dat (w := w) (mg := mg) (mb := mb) (lo := lo) (n := n)
  simp only [funext fun c => lsW_datW (Str.ofString "lb") (Str.ofString "XX") c es, funext fun c => lsW_datW (Str.ofString "gc") (Str.ofString "Cn") c es, funext fun c => lsW_datW (Str.ofString "ea") (Str.ofString "N") c es] at this
  exact this
end

-- a database from a list of puts
structure Op where
  k : Str
  d : Str
  c : Int
  v : Str
noncomputable def okAll (Ls : List (Str × RM)) : Bool := (Ls.all fun p => p.2.st.length == p.2.vs.length && (decide (p.2.st.length < 1000) && (!p.2.st.isEmpty && p.2.st.getD 0 0 == 0))) && decide (Ls.length ≤ 50)
theorem okAll_ok {Ls : List (Str × RM)} (h : okAll Ls = true) : (∀ p ∈ Ls, p.2.Ok) ∧ Ls.length ≤ 50 := by
  unfold okAll at h
  rw [Bool.and_eq_true, List.all_eq_true] at h
  refine ⟨fun p hp => ?_, of_decide_eq_true h.2⟩
  have := h.1 p hp
  simp only [Bool.and_eq_true, beq_iff_eq, Bool.not_eq_true', List.isEmpty_eq_false_iff, decide_eq_true_eq] at this
  exact ⟨this.1, this.2.1, this.2.2.1, this.2.2.2⟩
noncomputable def Op.do (o : Op) (Ls : List (Str × RM)) : List (Str × RM) := mput o.k o.d o.c o.c o.v Ls
noncomputable def dbK (ops : List Op) : Nat → List (Str × RM)
  | 0 => []
  | k + 1 => (ops.getD k ⟨⟨#[]⟩, ⟨#[]⟩, 0, ⟨#[]⟩⟩).do (dbK ops k)
noncomputable def runs : List Op → List (Str × RM) → Bool
  | [], Ls => okAll Ls
  | o :: os, Ls => okAll Ls && runs os (o.do Ls)
theorem runs_at (os : List Op) : ∀ (pre : List Op), runs os (dbK (pre ++ os) pre.length) = true → ∀ k, pre.length ≤ k → k ≤ (pre ++ os).length → okAll (dbK (pre ++ os) k) = true := by
  induction os with
  | nil =>
    intro pre h k h1 h2
    rw [List.append_nil] at h2 h ⊢
    have : k = pre.length := by one_sign
    subst this
    exact h
  | cons o os ih =>
    intro pre h k h1 h2
    unfold runs at h
    rw [Bool.and_eq_true] at h
    by_cases e : k = pre.length
    · subst e; exact h.1
    · have e1 : pre ++ o :: os = (pre ++ [o]) ++ os := by simp
      have e2 : dbK (pre ++ o :: os) (pre ++ [o]).length = o.do (dbK (pre ++ o :: os) pre.length) := by
        rw [List.length_append]
        show Op.do ((pre ++ o :: os).getD pre.length _) _ = _
        rw [List.getD_eq_getElem?_getD, List.getElem?_append_right (Nat.le_refl _)]; simp
      rw [e1]
      refine ih (pre ++ [o]) ?_ k (by simp; one_sign) (by rw [← e1]; exact h2)
      rw [← e1, e2]; exact h.2

-- rows 01, 02: the deck
noncomputable def deckD (c : Addr) (mx : Int) : List (D × D) := [(ss "cells", .ref c), (ss "mixed", .int mx)]
noncomputable def DeckOwn (H0 H : Hp) (dk c : Addr) (L : List (Addr × X)) : Prop := ∃ (cs : List Int) (mx : Int), Own H0 H ((dk, .dct (deckD c mx)) :: (c, .lst (cs.map .int)) :: L) ∧ cs.length ≤ 40 ∧ 0 ≤ mx ∧ mx < 2147483647
theorem DeckOwn.alloc {H0 H : Hp} {dk c a : Addr} {x : X} {L : List (Addr × X)} (h : DeckOwn H0 H dk c L) (ha : H a = none) : DeckOwn H0 (H.set a x) dk c ((a, x) :: L) := by
  obtain ⟨cs, mx, o, l⟩ := h
  exact ⟨cs, mx, (o.alloc ha).perm ((List.Perm.swap _ _ _).trans ((List.Perm.swap _ _ _).cons _)), l⟩
theorem DeckOwn.get {H0 H : Hp} {dk c a : Addr} {x : X} {L : List (Addr × X)} (h : DeckOwn H0 H dk c L) (ha : (a, x) ∈ L) : H a = some x := by
  obtain ⟨cs, mx, o, l⟩ := h
  exact o.get (.tail _ (.tail _ ha))
theorem DeckOwn.upd {H0 H : Hp} {dk c a : Addr} {x y : X} {L : List (Addr × X)} (h : DeckOwn H0 H dk c L) (i : Nat) (hi : L[i]? = some (a, x)) : DeckOwn H0 (H.set a y) dk c (L.set i (a, y)) := by
  obtain ⟨cs, mx, o, l⟩ := h
  exact ⟨cs, mx, o.upd (y := y) (i + 2) hi, l⟩
theorem DeckOwn.trans {H0 H H' : Hp} {dk c : Addr} {L L' : List (Addr × X)} (h : DeckOwn H0 H dk c L) (o' : Own H H' L') : DeckOwn H0 H' dk c (L' ++ L) := by
  obtain ⟨cs, mx, o, l⟩ := h
  refine ⟨cs, mx, (o.trans o').perm ?_, l⟩
  exact (List.perm_append_comm_assoc L' [(dk, X.dct (deckD c mx)), (c, .lst (cs.map .int))] L)
theorem DeckOwn.own {H0 H : Hp} {dk c : Addr} {L : List (Addr × X)} (h : DeckOwn H0 H dk c L) : Own H0 H L := by
  obtain ⟨cs, mx, o, l⟩ := h
  exact o.weak (.cons _ (.cons _ (.refl _)))
section
variable {w : World} {mg mb : Str → Option Value} {lo : Lo} {n : Nat} {H : Hp}

theorem fmod_bounds (a : Int) {b : Int} (h : 0 < b) : 0 ≤ a.fmod b ∧ a.fmod b < b := ⟨Int.fmod_nonneg_of_pos a h, Int.fmod_lt_of_pos a h⟩
theorem law_draw_ok {H0 : Hp} {dk c : Addr} {L : List (Addr × X)} {many : Int} {Q : D → Hp → Prop} (h : DeckOwn H0 H dk c L) (h1 : 1 ≤ many) (q : ∀ v H', 0 ≤ v → v < many → DeckOwn H0 H' dk c L → Q (.int v) H') :
    CalC (mkG w mg mb lo) (n + 2) H (.ref 517) [.ref dk, .int many] Q := by
  obtain ⟨cs, mx, o, l1, l2, l3⟩ := h
  have pd := o.get (.head _)
  have pc := o.get (.tail _ (.head _))
  refine CalC.fn (es := [.ref dk, .int many]) [Str.ofString "deck", Str.ofString "many"] (by ktr_unf) (by ktr_unf) (fun B T s vs k i => BindsTo.two (fun a b => rfl) i) (fun L0 hL => ?_)
  refine Ex.ite (EvB.cmp (EvP.to (EvP.item (EvP.loc rfl) EvP.cstr (ItemP.dct (k := .inl (Str.ofString "cells")) (DctAt.own pd) rfl)) (Ev.lst (EvL.nil ⟨by decide, fun e he _ => ?_⟩))))
  refine Cmp.neL (Hp.keep he pc) (Hp.set_self ..) (Tru.bool ⟨fun hb => ?_, fun hb => Ex.nil ?_⟩) (by cases cs <;> rfl) (by one_sign)
  · have oe := o.alloc (x := .lst []) he
    have pd' := oe.get (.tail _ (.head _))
    have pc' := oe.get (.tail _ (.tail _ (.head _)))
    have hne : cs ≠ [] := by rintro rfl; revert hb; decide
    refine Ex.ret (Ev.fresh fun hL' => Ev.bin (Ev.methB0 (T := "list") (id := "list.pop") PySem.F.plainAttrs_list PySem.F.slot_list_pop PySem.F.type_list_pop ?_))
    refine EvP.to (EvP.item (EvP.loc rfl) EvP.cstr (ItemP.dct (k := .inl (Str.ofString "cells")) (DctAt.own pd') rfl)) ⟨c, rfl, list_there hL' pc', ?_⟩
    · refine Cal.pop pc' (d := .int (cs.getLast hne)) (by rw [List.getLast?_map, List.getLast?_eq_some_getLast hne]; rfl) (by rw [List.length_map, sizeLine_eq]; one_sign) ?_
      refine EvP.to (EvP.loc rfl) (Bin.modI (by one_sign) (q _ _ (fmod_bounds _ (by one_sign)).1 (fmod_bounds _ (by one_sign)).2 ⟨cs.dropLast, mx, ?_, by simp; one_sign, l2, l3⟩))
      have := (oe.upd (y := .lst ((cs.map D.int).dropLast)) 2 rfl).weak (L' := (dk, .dct (deckD c mx)) :: (c, .lst ((cs.map D.int).dropLast)) :: L) (.cons _ (.refl _))
      rw [← List.map_dropLast] at this ⊢
      exact this
  · have oe := o.alloc (x := .lst []) he
    have pd' := oe.get (.tail _ (.head _))
    have b1 := fmod_bounds (mx * 16807 + 29) (b := 2147483647) (by decide)
    refine Ex.asgI (EvP.to (EvP.bin (EvP.bin (EvP.bin (EvP.item (EvP.loc rfl) EvP.cstr (ItemP.dct (k := .inl (Str.ofString "mixed")) (DctAt.own pd') rfl)) EvP.cint (BinP.mul (IntMulOk.of_right (by decide)))) EvP.cint BinP.add) EvP.cint (BinP.mod (by decide))) (EvP.to (EvP.loc rfl) (EvP.cstr.to (SetI.dct (k := .inl (Str.ofString "mixed")) pd' (by rfl) ?_ (Nat.le_of_ble_eq_true rfl)))))
    have o2 := oe.upd (y := .dct (deckD c ((mx * 16807 + 29).fmod 2147483647))) 1 rfl
    have pd2 := o2.get (.tail _ (.head _))
    refine Ex.ret (EvP.to (EvP.bin (EvP.bin (EvP.item (EvP.loc rfl) EvP.cstr (ItemP.dct (k := .inl (Str.ofString "mixed")) (DctAt.own pd2) rfl)) EvP.cint (BinP.div (by decide) (PyProof.noPylong_small (by decide)))) (EvP.loc rfl) (BinP.mod (by one_sign))) (q _ _ (fmod_bounds _ (by one_sign)).1 (fmod_bounds _ (by one_sign)).2 ⟨cs, _, o2.weak (.cons _ (.refl _)), l1, b1.1, b1.2⟩))
theorem law_deck_ok {Q : D → Hp → Prop} (hz : lo.2.2.length ≤ 63) (q : ∀ dk c H', DeckOwn H H' dk c [] → Q (.ref dk) H') : CalC (mkG w mg mb lo) (n + 2) H (.ref 510) [.ref lo.2.1] Q := by
  refine CalC.fn (es := [.ref lo.2.1]) [Str.ofString "script"] (by ktr_unf) (by ktr_unf) (fun B T s vs k i => BindsTo.one (fun a => rfl) i) (fun L0 hL => ?_)
  refine Ex.asgS (names := [Str.ofString "cells", Str.ofString "mixed"]) (Ev.tup (EvL.cons ?_))
  refine Ev.comp (cl := []) (by one_sign) ?_ ?hcl
  case hcl => rfl
  refine Ev.locs (Ev.slcI (EvP.to (EvP.loc rfl) ⟨lo.2.1, _, _, _, _, rfl, LstI.script (G := mkG w mg mb lo), .no, .yes EvP.cint, .no, by simp, by simp; rw [sizeLine_eq]; one_sign, fun sl hsl hL1 => ?_⟩))
  have ecs : pickL (List.map D.int (mkG w mg mb lo).si) none (some 40) none = (lo.2.2.take 40).map D.int := by rw [pickL_upto _ (by decide), List.map_take]; rfl
  rw [ecs] at hL1 ⊢
  have lz : (lo.2.2.take 40).length ≤ 40 := by rw [List.length_take]; one_sign
  generalize lo.2.2.take 40 = cs at *
  refine ⟨_, _, _, _, Itr.lst (Hp.set_self ..), rfl, hL1, by simp; rw [sizeLine_eq]; one_sign, fun C hC hCL => ?_⟩
  have o0 := (Own.refl H).alloc (x := .lst (cs.map D.int)) hsl
  refine Lc.inv (fun i m H' acc => H' = H.set sl (.lst (cs.map D.int)) ∧ acc = (cs.map D.int).take i) ?_ ?_ ⟨rfl, rfl⟩
  · rintro i d m H' acc hi ⟨rfl, rfl⟩
    obtain ⟨x, hx, rfl⟩ := map_inv hi
    refine ⟨Hp.set_self .., Asg.name ⟨fun _ => ?_, fun h => by cases h⟩⟩
    refine Ev.callTy (by ktr_unf) rfl (EvL.cons (EvP.to (EvP.loc lset_self) (EvL.nil (Cal.intI ⟨rfl, ?_⟩))))
    rw [List.take_add_one, hi]; rfl
  · rintro m H' acc ⟨rfl, rfl⟩
    refine ⟨Hp.set_self .., fun a ha _ => ?_⟩
    rw [List.take_length]
    refine EvL.cons (EvP.cint.to (EvL.nil ⟨Nat.le_of_ble_eq_true rfl, _, rfl, rfl, rfl, rfl, rfl, rfl, ?_⟩))
    have o1 := (o0.alloc (x := .lst (cs.map D.int)) ha).weak (L' := [(a, .lst (cs.map D.int))]) (.cons_cons _ (.cons _ (.refl _)))
    revert o1; generalize (H.set sl _).set a _ = H1; intro o1
    refine Ex.forLst (by one_sign) (EvP.loc rfl) (o1.get (.head _)) rfl ?_
    refine Lp.inv (fun i m H' => H' = H1 ∧ m (Str.ofString "cells") = some (.ref a) ∧ ∃ mx : Int, m (Str.ofString "mixed") = some (.int mx) ∧ 0 ≤ mx ∧ mx < 1000003) ?_ ?_ ⟨rfl, rfl, 11, rfl, by decide, by decide⟩
    · rintro i d m H' hi ⟨rfl, m1, mx, m2, b1, b2⟩
      obtain ⟨x, hx, rfl⟩ := map_inv hi
      have b3 := fmod_bounds (mx * 31 + x) (b := 1000003) (by decide)
      refine ⟨o1.get (.head _), Asg.name (Ex.asg (EvP.to (EvP.bin (EvP.bin (EvP.bin (EvP.loc (lset_get (by decide) m2)) EvP.cint (BinP.mul (IntMulOk.of_right (by decide)))) (EvP.loc lset_self) BinP.add) EvP.cint (BinP.mod (by decide))) (Asg.name (Ex.nil ⟨rfl, by ktr_rel, _, lset_self, b3.1, b3.2⟩))))⟩
    · rintro m H' ⟨rfl, m1, mx, m2, b1, b2⟩
      refine ⟨o1.get (.head _), Ex.ret ?_⟩
      refine' Ev.dict ?a1 ?a2 ?a3 ?a4 ?a5
      case a2 => rfl
      case a3 => rfl
      case a4 => simp
      case a5 => decide
      case a1 =>
      refine EvD.cons (.inl (Str.ofString "cells")) (EvP.cstr.to ⟨rfl, ?_⟩)
      refine Ev.slc (EvP.to (EvP.loc m1) ⟨a, _, _, _, _, rfl, LstAt.own (o1.get (.head _)), .no, .no, .yes (EvP.neg EvP.cint), by simp, by simp; rw [sizeLine_eq]; one_sign, fun b hb => ?_⟩)
      refine EvD.cs (EvP.loc m2) (EvD.nil ⟨by rfl, fun dk hdk => ?_⟩)
      have o2 := ((o1.alloc (x := .lst (pickL (cs.map D.int) none none (some (-1)))) hb).alloc (x := .dct (deckD b mx)) hdk).weak (L' := [(dk, .dct (deckD b mx)), (b, .lst (pickL (cs.map D.int) none none (some (-1))))]) (.cons_cons _ (.cons_cons _ (.cons _ (.refl _))))
      refine q dk b _ ⟨cs.reverse, mx, ?_, by simpa using lz, b1, by one_sign⟩
      rw [pickL_rev, ← List.map_reverse] at o2 ⊢
      exact o2
end

-- row 01: the databases of the law
noncomputable def opsOf (sorts : List String) : List Op := (sorts.zipIdx.map fun (s, i) => Op.mk (Str.ofString "lb") (Str.ofString "XX") (65 + (i : Int)) (Str.ofString s)) ++ [⟨Str.ofString "lb", Str.ofString "XX", 9676, Str.ofString "AL"⟩]
noncomputable def sylls : List String := ["AK", "AP", "AS", "VF", "VI", "AL", "ID"]
noncomputable def nums : List String := ["NU", "SY", "IS", "CL", "CP", "OP", "HY", "PR", "PO", "AL", "NU", "NU"]
theorem opsS_ok (k : Nat) (h : k ≤ 8) : okAll (dbK (opsOf sylls) k) = true := runs_at (opsOf sylls) [] (by decide +kernel) k (Nat.zero_le _) (by show k ≤ (opsOf sylls).length; exact h)
theorem opsN_ok (k : Nat) (h : k ≤ 13) : okAll (dbK (opsOf nums) k) = true := runs_at (opsOf nums) [] (by decide +kernel) k (Nat.zero_le _) (by show k ≤ (opsOf nums).length; exact h)
theorem opsOf_len (sorts : List String) : (opsOf sorts).length = sorts.length + 1 := by simp [opsOf]
theorem opsOf_at (sorts : List String) {i : Nat} {s : String} (h : sorts[i]? = some s) : (opsOf sorts).getD i ⟨⟨#[]⟩, ⟨#[]⟩, 0, ⟨#[]⟩⟩ = ⟨Str.ofString "lb", Str.ofString "XX", 65 + (i : Int), Str.ofString s⟩ := by
  have hl : i < sorts.length := (List.getElem?_eq_some_iff.mp h).1
  unfold opsOf
  rw [List.getD_eq_getElem?_getD, List.getElem?_append_left (by simpa using hl), List.getElem?_map, List.getElem?_zipIdx, h]
  simp
theorem opsOf_last (sorts : List String) : (opsOf sorts).getD sorts.length ⟨⟨#[]⟩, ⟨#[]⟩, 0, ⟨#[]⟩⟩ = ⟨Str.ofString "lb", Str.ofString "XX", 9676, Str.ofString "AL"⟩ := by
  unfold opsOf
  rw [List.getD_eq_getElem?_getD, List.getElem?_append_right (by simp)]
  simp
section
variable {w : World} {mg mb : Str → Option Value} {lo : Lo} {n : Nat} {H : Hp}
theorem DB.inst {H0 H' : Hp} {da : Addr} {Ls : List (Str × RM)} (h : DB H0 H' da Ls) : ∃ dx a1 a2 a3 a4, H' da = some (.ins 499 dx) ∧ H' dx = some (.dct (dtD a1 a2 a3 a4)) := by
  obtain ⟨⟨dx, a1, a2, a3, a4, dl, es, _, _, _, o⟩, _⟩ := h
  exact ⟨dx, a1, a2, a3, a4, o.get (.head _), o.get (.tail _ (.head _))⟩

theorem law_data_ok {sorts : List String} {Q : D → Hp → Prop} (hz : sorts.length ≤ 20) (hok : ∀ j, j ≤ (opsOf sorts).length → okAll (dbK (opsOf sorts) j) = true) (q : ∀ da H', DB H H' da (dbK (opsOf sorts) (sorts.length + 1)) → Q (.ref da) H') :
    CalC (mkG w mg mb lo) (n + 6) H (.ref 524) [.tup (sorts.map ss)] Q := by
  refine CalC.fn (es := [.tup (sorts.map ss)]) [Str.ofString "sorts"] (by ktr_unf) (by ktr_unf) (fun B T s vs k i => BindsTo.one (fun a => rfl) i) (fun L hL => ?_)
  refine Ex.asg (Ev.callG0 (by ktr_unf) (by ktr_unf) (CalC.cal (CalC.le (Data_ok (n := n) fun da dx a1 a2 a3 a4 dl H1 hdl o1 => Asg.name ?_) (by one_sign))))
  have db0 : DB H H1 da (dbK (opsOf sorts) 0) := ⟨⟨dx, a1, a2, a3, a4, dl, [], hdl, rfl, rfl, o1⟩, fun p hp => by cases hp⟩
  clear o1 hdl
  have ol := opsOf_len sorts
  have step : ∀ {j : Nat} {c : Int} {x : Str}, j ≤ sorts.length → (opsOf sorts).getD j ⟨⟨#[]⟩, ⟨#[]⟩, 0, ⟨#[]⟩⟩ = ⟨Str.ofString "lb", Str.ofString "XX", c, x⟩ → dbK (opsOf sorts) (j + 1) = mput (Str.ofString "lb") (Str.ofString "XX") c c x (dbK (opsOf sorts) j) ∧ (∀ p ∈ mput (Str.ofString "lb") (Str.ofString "XX") c c x (dbK (opsOf sorts) j), p.2.Ok) ∧ (dbK (opsOf sorts) j).length ≤ 50 := fun {j c x} hj e => by
    have e1 : dbK (opsOf sorts) (j + 1) = mput (Str.ofString "lb") (Str.ofString "XX") c c x (dbK (opsOf sorts) j) := by
      show Op.do ((opsOf sorts).getD j _) _ = _
      rw [e]; rfl
    refine ⟨e1, ?_, (okAll_ok (hok j (by one_sign))).2⟩
    rw [← e1]; exact (okAll_ok (hok (j + 1) (by one_sign))).1
  refine Ex.forEnumT (ds := sorts.map ss) (by one_sign) (by ktr_unf) rfl (EvP.loc rfl) rfl ?_
  refine Lp.inv (fun i m H' => m (Str.ofString "data") = some (.ref da) ∧ DB H H' da (dbK (opsOf sorts) i)) ?_ ?_ ⟨rfl, db0⟩
  · rintro i d m H2 hi ⟨m1, db⟩
    obtain ⟨_, hi2, rfl⟩ := enuL_inv hi
    obtain ⟨sg, hi3, rfl⟩ := map_inv hi2
    have hlt : i < sorts.length := (List.getElem?_eq_some_iff.mp hi3).1
    obtain ⟨s1, s2, s3⟩ := step (by one_sign) (opsOf_at sorts hi3)
    obtain ⟨dx', b1, b2, b3, b4, e1, e2⟩ := db.inst
    refine ⟨trivial, Asg.tup (AsgL.cons (Asg.name (AsgL.cons (Asg.name (AsgL.nil ?_)))))⟩
    refine Ex.expr (Ev.meth (x := da) (C := 499) (dx := dx') (f := 482) me_Data_put.1 me_Data_put.2.1 me_Data_put.2.2.1 me_Data_put.2.2.2 (EvP.to (EvP.loc (lset_get (by decide) (lset_get (by decide) m1))) ⟨rfl, e1, e2, rfl, ?_⟩))
    refine EvL.cons (EvP.cstr.to (EvL.cons (EvP.to (EvP.bin EvP.cint (EvP.loc (lset_get (by decide) lset_self)) BinP.add) (EvL.cons (EvP.to (EvP.bin EvP.cint (EvP.loc (lset_get (by decide) lset_self)) BinP.add) (EvL.cons (EvP.to (EvP.loc lset_self) (EvL.nil ?_))))))))
    refine CalC.cal (data_put_ok db (fun l h => h.lb) (by one_sign) (by one_sign) (Int.le_refl _) (by one_sign) s2 fun H3 hdb3 => Ex.nil ⟨lset_get (by decide) (lset_get (by decide) m1), ?_⟩)
    rw [s1]; exact hdb3
  · rintro m H2 ⟨m1, db⟩
    rw [enuL_len, List.length_map] at db
    obtain ⟨s1, s2, s3⟩ := step (Nat.le_refl _) (opsOf_last sorts)
    obtain ⟨dx', b1, b2, b3, b4, e1, e2⟩ := db.inst
    refine ⟨trivial, Ex.expr (Ev.meth (x := da) (C := 499) (dx := dx') (f := 482) me_Data_put.1 me_Data_put.2.1 me_Data_put.2.2.1 me_Data_put.2.2.2 (EvP.to (EvP.loc m1) ⟨rfl, e1, e2, rfl, ?_⟩))⟩
    refine EvL.cons (EvP.cstr.to (EvL.cons (EvP.to EvP.cint (EvL.cons (EvP.to EvP.cint (EvL.cons (EvP.to EvP.cstr (EvL.nil ?_))))))))
    refine CalC.cal (data_put_ok db (fun l h => h.lb) (by one_sign) (by decide) (Int.le_refl _) (by decide) s2 fun H3 hdb3 => Ex.ret (EvP.to (EvP.loc m1) (q da H3 ?_)))
    rw [s1]; exact hdb3
end

-- row 01: the law's own reading of syllables
noncomputable def sw (ws : List Str) (k : Nat) : Str := ws.getD k ⟨#[]⟩
noncomputable abbrev BASES := ["AK", "AS", "AL"]
noncomputable def nextVF (ws : List Str) (i : Nat) : Bool := leq (((ws.drop (i + 1)).take 1).map .str) [ss "VF"]
noncomputable def heldB (ws : List Str) (i : Nat) : Bool :=
  bif (is (sw ws (i - 1)) "AL" && is (sw ws i) "AL") || (is (sw ws (i - 1)) "AP" && inl (sw ws i) BASES) then true else
  bif inl (sw ws (i - 1)) BASES && inl (sw ws i) ["VF", "VI"] then true else
  bif is (sw ws (i - 1)) "VI" && (decide ((i : Int) > 1) && (inl (sw ws (i - 2)) BASES && inl (sw ws i) ["AK", "AL"])) then true else
  inl (sw ws (i - 1)) BASES && (inl (sw ws i) BASES && nextVF ws i)
theorem strs_at {ws : List Str} {k : Nat} (h : k < ws.length) : (ws.map D.str)[k]? = some (.str (sw ws k)) := by
  unfold sw
  rw [List.getElem?_map, List.getElem?_eq_getElem h]
  simp [List.getD_eq_getElem?_getD, h]
theorem strs_dk {l r : List Str} : (((l.map D.str).zip (r.map D.str)).all fun p => dk p.1 p.2) = true := dk_str (fun d h => by obtain ⟨x, _, rfl⟩ := List.mem_map.mp h; exact ⟨x, rfl⟩) (fun d h => by obtain ⟨x, _, rfl⟩ := List.mem_map.mp h; exact ⟨x, rfl⟩)
theorem dBif (b x y : Bool) : (bif b then D.bool x else D.bool y) = D.bool (bif b then x else y) := by cases b <;> rfl
section
variable {w : World} {mg mb : Str → Option Value} {lo : Lo} {n : Nat} {H : Hp}

local macro_rules | `(tactic| tb_rel) => `(tactic| first
  | ((show ItemP _ _ _ (D.ref _) _ _); exact ItemP.lst (by assumption) (by first | one_sign | solve_by_elim) (by first | assumption | solve_by_elim) (by assumption))
  | ((show CalP _ _ _ _ _ _); assumption))
theorem is_held_ok {sm : Addr} {ws : List Str} (hs : H sm = some (.lst (ws.map .str))) (i : Nat) (h0 : 1 ≤ i) (h1 : i < ws.length) (hz : ws.length ≤ 50) : CalP (mkG w mg mb lo) (n + 4) H (.ref 531) [.ref sm, .int i] (.bool (heldB ws i)) := by
  have lt : (ws.map D.str).length = ws.length := by simp
  have lt2 : (ws.map D.str).length < 2 ^ 62 := by one_sign
  have x1 : (ws.map D.str)[((i : Int) - 1).toNat]? = some (.str (sw ws (i - 1))) := by rw [show ((i : Int) - 1).toNat = i - 1 by one_sign]; exact strs_at (by one_sign)
  have x2 : (ws.map D.str)[((i : Int)).toNat]? = some (.str (sw ws i)) := strs_at (by one_sign)
  have x3 : (ws.map D.str)[((i : Int) - 2).toNat]? = some (.str (sw ws (i - 2))) := by rw [show ((i : Int) - 2).toNat = i - 2 by one_sign]; exact strs_at (by one_sign)
  have x4 : decide ((i : Int) > 1) = true → 0 ≤ (i : Int) - 2 := fun e => by have := of_decide_eq_true e; one_sign
  have ht : ∀ {env : Env} {m : Loc} {e : Expr}, EvP (mkG w mg mb lo) (n + 3) env m H e (.bool (inl (sw ws (i - 1)) BASES && (inl (sw ws i) BASES && nextVF ws i))) → EvP (mkG w mg mb lo) (n + 3) env m H e (.bool (inl (sw ws (i - 1)) BASES && (inl (sw ws i) BASES && nextVF ws i))) := id
  refine CalP.conv (d := ?d) ?hc ?he
  rotate_left
  case hc =>
    refine CalP.fn (es := [.ref sm, .int i]) [Str.ofString "some", Str.ofString "at"] (by ktr_unf) (by ktr_unf) (fun B T s vs k i => BindsTo.two (fun a b => rfl) i) (fun L hL => ?_)
    refine' ExP.asg ?a0 ?a1
    case a0 => tb_start
    case a1 =>
    refine' ExP.asgS2 ?b0 ?b1
    case b0 => tb_start
    case b1 =>
    refine' ExP.iteR ?c0 (fun _ => ?c1) (fun _ => ?c2)
    case c0 => tb_start
    case c1 => exact ExP.ret EvP.cbool
    case c2 =>
    refine' ExP.iteR ?d0 (fun _ => ?d1) (fun _ => ?d2)
    case d0 => tb_start
    case d1 => exact ExP.ret EvP.cbool
    case d2 =>
    refine' ExP.iteR ?e0 (fun _ => ?e1) (fun _ => ?e2)
    case e0 => tb_start
    case e1 => exact ExP.ret EvP.cbool
    case e2 =>
    refine' ExP.ret (EvP.and ?f0 fun _ => EvP.and ?f1 fun _ => EvP.one ?f2)
    case f0 => tb_start
    case f1 => tb_start
    case f2 =>
    refine Ev.p (d := .bool (nextVF ws i)) (Ev.cmp (Ev.slc (EvP.to (EvP.loc rfl) ⟨sm, _, _, _, _, rfl, LstAt.own hs, .yes (EvP.bin (EvP.loc rfl) EvP.cint BinP.add), .yes (EvP.bin (EvP.loc rfl) EvP.cint BinP.add), .no, by simp, by rw [lt, sizeLine_eq]; one_sign, fun sl hsl => ?_⟩)))
    have es : pickL (ws.map D.str) (some ((i : Int) + 1)) (some ((i : Int) + 2)) none = ((ws.drop (i + 1)).take 1).map .str := by
      rw [pickL_run _ (by one_sign) (by one_sign), List.map_take, List.map_drop, show ((i : Int) + 1).toNat = i + 1 by one_sign, show ((i : Int) + 2).toNat - (i + 1) = 1 by one_sign]
    rw [es]
    refine Ev.lst (EvL.cons (EvP.cstr.to (EvL.nil ⟨Nat.le_of_ble_eq_true rfl, fun vf hvf _ => ?_⟩)))
    refine Cmp.eqL (Hp.keep hvf (Hp.set_self ..)) (Hp.set_self ..) ⟨(Sub.set hsl).trans (Sub.set hvf), rfl⟩ (strs_dk (r := [Str.ofString "VF"])) (by one_sign)
  unfold heldB
  rw [dBif, dBif, dBif]
  rfl
end

-- row 01: what a verdict is on these words
noncomputable def vG (N a b : Str) (aks num : D) : D :=
  vOr (vOr (vOr (vOr (vOr (rHard a b) (vOr (rSpaces b a false) (rGlue a b))) (vOr (rClosing a b a N) (vOr .none (rOver a b a)))) (vOr (rSigns a b ⟨#[]⟩ (Str.ofString "strict")) (vOr (rLetters a b) num))) (vOr (rSyll a b) (vOr aks
    (bif is a "IS" && inl b ALPH then no "LB29" else bif (inl a ALPH || is a "NU") && is b "OP" then no "LB30" else bif is a "CP" && (inl b ALPH || is b "NU") then no "LB30" else .none)))) (vOr (rPict a b false) (may "LB31"))
structure Txt (lb ea : Int → Str) (cs : List Int) (ws : List Str) : Prop where
  len : cs.length = ws.length
  lb : ∀ k, k < ws.length → lb (cs.getD k 0) = sw ws k
  ea : ∀ k, k < ws.length → ea (cs.getD k 0) = Str.ofString "N"
  ok : ∀ k, k < ws.length → is (sw ws k) "SP" = false ∧ is (sw ws k) "QU" = false ∧ is (sw ws k) "HL" = false
section
variable {lb gc ea : Int → Str} {cs : List Int} {ws : List Str} {S N : Str} {kp : Bool}
theorem Txt.at (h : Txt lb ea cs ws) {k : Nat} (hk : k < ws.length) : cs[k]? = some (cs.getD k 0) := by
  have : k < cs.length := by rw [h.len]; exact hk
  rw [List.getD_eq_getElem?_getD, List.getElem?_eq_getElem this]; rfl
theorem Txt.W (h : Txt lb ea cs ws) {p : Int} (h0 : 0 ≤ p) (h1 : p < ws.length) : (mkV lb cs S N kp).W p = sw ws p.toNat := by
  rw [mkV_W h0 (h.at (by one_sign)), h.lb _ (by one_sign)]
theorem Txt.out (h : Txt lb ea cs ws) {p : Int} (q : ¬ (0 ≤ p ∧ p < ws.length)) : (mkV lb cs S N kp).W p = ⟨#[]⟩ := W_out (by rw [mkV_len, h.len]; exact q)
theorem Txt.C (h : Txt lb ea cs ws) {p : Int} (h0 : 0 ≤ p) (h1 : p < ws.length) : (mkV lb cs S N kp).C p = cs.getD p.toNat 0 := by
  unfold Vw.C mkV
  simp only [List.getElem?_mapIdx, h.at (show p.toNat < ws.length by one_sign)]; rfl
theorem mkV_J (p : Int) : (mkV lb cs S N kp).J p = false := by
  unfold Vw.J mkV
  simp only [List.getElem?_mapIdx]
  cases cs[p.toNat]? <;> rfl
theorem Txt.sol (h : Txt lb ea cs ws) {p : Int} (h0 : 0 ≤ p) (h1 : p < ws.length) : (mkV lb cs S N kp).S p = p := by
  have hk : p.toNat < cs.length := by rw [h.len]; one_sign
  unfold Vw.S mkV
  simp only [List.getElem?_map]
  rw [List.getElem?_eq_getElem (by simpa using hk)]
  simp only [List.getElem_range, Option.map_some, Option.getD_some]
  show (bif is (lb (cs.getD p.toNat 0)) "SP" then _ else ((p.toNat : Nat) : Int)) = p
  rw [h.lb _ (by one_sign), (h.ok _ (show p.toNat < ws.length by one_sign)).1]
  show ((p.toNat : Nat) : Int) = p
  one_sign
theorem rSigns_hl (a b z S : Str) (h : is z "HL" = false) : rSigns a b z S = rSigns a b ⟨#[]⟩ S := by
  unfold rSigns
  rw [h]; rfl
theorem verdict_vG (h : Txt lb ea cs ws) {i : Nat} (h0 : 1 ≤ i) (h1 : i < ws.length) : verdict (mkV lb cs (Str.ofString "strict") N false) gc ea i = vG N (sw ws (i - 1)) (sw ws i) (rAksaras (mkV lb cs (Str.ofString "strict") N false) i) (rNumbers (mkV lb cs (Str.ofString "strict") N false) i) := by
  have e1 : (mkV lb cs (Str.ofString "strict") N false).W ((i : Int) - 1) = sw ws (i - 1) := by rw [h.W (by one_sign) (by one_sign), show ((i : Int) - 1).toNat = i - 1 by one_sign]
  have e2 : (mkV lb cs (Str.ofString "strict") N false).W (i : Int) = sw ws i := by rw [h.W (by one_sign) (by one_sign), Int.toNat_natCast]
  have e3 : (mkV lb cs (Str.ofString "strict") N false).S ((i : Int) - 1) = (i : Int) - 1 := h.sol (by one_sign) (by one_sign)
  have e4 : is ((mkV lb cs (Str.ofString "strict") N false).W ((i : Int) - 2)) "HL" = false := by
    by_cases q : 2 ≤ i
    · rw [h.W (by one_sign) (by one_sign)]; exact (h.ok _ (by one_sign)).2.2
    · rw [h.out (by one_sign)]; rfl
  have e5 : ∀ k : Nat, k < ws.length → (mkV lb cs (Str.ofString "strict") N false).nar ea (k : Int) = true := fun k hk => by
    unfold Vw.nar
    rw [h.C (by one_sign) (by one_sign), Int.toNat_natCast, h.ea _ hk]; rfl
  have o1 := h.ok (i - 1) (by one_sign)
  have o2 := h.ok i h1
  have eQ : rQuotes (mkV lb cs (Str.ofString "strict") N false) gc i = .none := by
    unfold rQuotes Vw.Q
    rw [e3, e1, e2, o1.2.1, o2.2.1]; rfl
  have eB : rBrackets (mkV lb cs (Str.ofString "strict") N false) ea i = (bif is (sw ws (i - 1)) "IS" && inl (sw ws i) ALPH then no "LB29" else bif (inl (sw ws (i - 1)) ALPH || is (sw ws (i - 1)) "NU") && is (sw ws i) "OP" then no "LB30" else bif is (sw ws (i - 1)) "CP" && (inl (sw ws i) ALPH || is (sw ws i) "NU") then no "LB30" else .none) := by
    unfold rBrackets
    rw [e1, e2, e5 i h1, show (i : Int) - 1 = ((i - 1 : Nat) : Int) by one_sign, e5 (i - 1) (by one_sign), Bool.and_true, Bool.and_true]
  unfold verdict vG
  simp only
  rw [e1, e2, e3, e1, mkV_J, eQ, eB, rSigns_hl _ _ _ _ e4]
  rfl
theorem Txt.ak (h : Txt lb ea cs ws) {p : Int} (h0 : 0 ≤ p) (h1 : p < ws.length) (l : List String) : (mkV lb cs S N kp).ak p l = (inl (sw ws p.toNat) l || cs.getD p.toNat 0 == 9676) := by
  unfold Vw.ak Vw.N
  rw [mkV_len, h.len, h.W h0 h1, h.C h0 h1, decide_eq_true h0, decide_eq_true h1]; rfl
end
-- the first sort
noncomputable def lbS : Int → Str := lsW (dbK (opsOf sylls) 8) (Str.ofString "lb") (Str.ofString "XX")
noncomputable def gcS : Int → Str := lsW (dbK (opsOf sylls) 8) (Str.ofString "gc") (Str.ofString "Cn")
noncomputable def eaS : Int → Str := lsW (dbK (opsOf sylls) 8) (Str.ofString "ea") (Str.ofString "N")
noncomputable def sy (p : Nat) : Str := Str.ofString (sylls.getD p "")
noncomputable def cdS (p : Nat) : Int := if p = 5 then 9676 else 65 + p
theorem tabS : ∀ k : Fin 7, lbS (cdS k.val) = sy k.val ∧ eaS (cdS k.val) = Str.ofString "N" ∧ okV (sy k.val) = true ∧ is (sy k.val) "SP" = false ∧ is (sy k.val) "QU" = false ∧ is (sy k.val) "HL" = false ∧ (cdS k.val == 9676) = is (sy k.val) "AL" := by decide +kernel
noncomputable def wsS (ps : List Nat) : List Str := ps.map sy
noncomputable def csS (ps : List Nat) : List Int := ps.map cdS
noncomputable def heldF (a b : Str) (z y : Bool) : Bool :=
  bif (is a "AL" && is b "AL") || (is a "AP" && inl b BASES) then true else
  bif inl a BASES && inl b ["VF", "VI"] then true else
  bif is a "VI" && (z && inl b ["AK", "AL"]) then true else
  inl a BASES && (inl b BASES && y)
noncomputable def aksF (a b : Str) (z y : Bool) : D :=
  bif ((is a "AP" && inl b BASES || inl a BASES && inl b ["VF", "VI"]) || (is a "VI" && (z && inl b ["AK", "AL"]))) || (inl a BASES && (inl b BASES && y)) then no "LB28a" else .none
noncomputable def numP (a b : Str) : D := bif numsT.any (fun e => deq e (.tup [.str a, .str b])) then no "LB25" else .none
noncomputable def chkS (a b : Nat) (z y : Bool) : Bool := deq (fstD (vG (Str.ofString "pairs") (sy a) (sy b) (aksF (sy a) (sy b) z y) (numP (sy a) (sy b)))) (bif heldF (sy a) (sy b) z y then ss "no" else ss "may")
theorem chkS_ok : ((List.range 7).all fun a => (List.range 7).all fun b => [false, true].all fun z => [false, true].all fun y => chkS a b z y) = true := by decide +kernel
theorem bases_al : ∀ k : Fin 7, (inl (sy k.val) ["AK", "AS"] || is (sy k.val) "AL") = inl (sy k.val) BASES ∧ (inl (sy k.val) ["AK"] || is (sy k.val) "AL") = inl (sy k.val) ["AK", "AL"] := by decide +kernel
theorem allB {f : Bool → Bool} (h : [false, true].all f = true) (b : Bool) : f b = true := List.all_eq_true.mp h b (by cases b <;> simp)
theorem allN {f : Nat → Bool} {n : Nat} (h : (List.range n).all f = true) {k : Nat} (hk : k < n) : f k = true := List.all_eq_true.mp h k (List.mem_range.mpr hk)
theorem str_eq {x : Str} {e : D} (h : deq e (.str x) = true) : e = .str x := by
  cases e <;> first | (cases h; done) | skip
  have : (_ == x) = true := h
  rw [beq_iff_eq.mp this]
section
variable {ps : List Nat}
theorem sw_wsS {k : Nat} (hk : k < ps.length) : sw (wsS ps) k = sy (ps.getD k 0) := by
  unfold sw wsS
  rw [List.getD_eq_getElem?_getD, List.getElem?_map, List.getElem?_eq_getElem hk, List.getD_eq_getElem?_getD, List.getElem?_eq_getElem hk]; rfl
theorem cs_csS {k : Nat} (hk : k < ps.length) : (csS ps).getD k 0 = cdS (ps.getD k 0) := by
  unfold csS
  rw [List.getD_eq_getElem?_getD, List.getElem?_map, List.getElem?_eq_getElem hk, List.getD_eq_getElem?_getD, List.getElem?_eq_getElem hk]; rfl
theorem getD_lt (h : ∀ p ∈ ps, p < 7) {k : Nat} (hk : k < ps.length) : ps.getD k 0 < 7 := by
  rw [List.getD_eq_getElem?_getD, List.getElem?_eq_getElem hk]; exact h _ (List.getElem_mem _)
theorem txtS (h : ∀ p ∈ ps, p < 7) : Txt lbS eaS (csS ps) (wsS ps) := by
  have l : (wsS ps).length = ps.length := by simp [wsS]
  refine ⟨by simp [csS, wsS], fun k hk => ?_, fun k hk => ?_, fun k hk => ?_⟩ <;> rw [l] at hk <;> have t := tabS ⟨ps.getD k 0, getD_lt h hk⟩
  · rw [cs_csS hk, sw_wsS hk]; exact t.1
  · rw [cs_csS hk]; exact t.2.1
  · rw [sw_wsS hk]; exact ⟨t.2.2.2.1, t.2.2.2.2.1, t.2.2.2.2.2.1⟩
theorem akS (h : ∀ p ∈ ps, p < 7) {S N : Str} {kp : Bool} {k : Nat} (hk : k < ps.length) : (mkV lbS (csS ps) S N kp).ak (k : Int) ["AK", "AS"] = inl (sw (wsS ps) k) BASES ∧ (mkV lbS (csS ps) S N kp).ak (k : Int) ["AK"] = inl (sw (wsS ps) k) ["AK", "AL"] := by
  have l : (wsS ps).length = ps.length := by simp [wsS]
  have t := tabS ⟨ps.getD k 0, getD_lt h hk⟩
  have b := bases_al ⟨ps.getD k 0, getD_lt h hk⟩
  rw [(txtS h).ak (by one_sign) (by one_sign), (txtS h).ak (by one_sign) (by one_sign), Int.toNat_natCast, cs_csS hk, t.2.2.2.2.2.2, sw_wsS hk]
  exact b
theorem placeS (h : ∀ p ∈ ps, p < 7) {i : Nat} (h0 : 1 ≤ i) (h1 : i < ps.length) : fstD (verdict (mkV lbS (csS ps) (Str.ofString "strict") (Str.ofString "pairs") false) gcS eaS i) = (bif heldB (wsS ps) i then ss "no" else ss "may") := by
  have l : (wsS ps).length = ps.length := by simp [wsS]
  have T := txtS h
  rw [verdict_vG T h0 (by one_sign)]
  let z : Bool := decide ((i : Int) > 1) && inl (sw (wsS ps) (i - 2)) BASES
  let y : Bool := nextVF (wsS ps) i
  have eN : rNumbers (mkV lbS (csS ps) (Str.ofString "strict") (Str.ofString "pairs") false) i = numP (sw (wsS ps) (i - 1)) (sw (wsS ps) i) := by
    unfold rNumbers numP
    rw [T.W (by one_sign) (by one_sign), T.W (by one_sign) (by one_sign), show ((i : Int) - 1).toNat = i - 1 by one_sign, Int.toNat_natCast]
    show (bif is (Str.ofString "pairs") "expression" then _ else _) = _
    rw [show is (Str.ofString "pairs") "expression" = false by decide]; rfl
  have ey : is ((mkV lbS (csS ps) (Str.ofString "strict") (Str.ofString "pairs") false).W ((i : Int) + 1)) "VF" = y := by
    show _ = nextVF (wsS ps) i
    unfold nextVF
    by_cases q : i + 1 < ps.length
    · rw [T.W (by one_sign) (by one_sign), show ((i : Int) + 1).toNat = i + 1 by one_sign, List.drop_eq_getElem_cons (by one_sign)]
      have : sw (wsS ps) (i + 1) = (wsS ps)[i + 1]'(by one_sign) := by unfold sw; rw [List.getD_eq_getElem?_getD, List.getElem?_eq_getElem (by one_sign)]; rfl
      rw [this, List.take_succ_cons, List.take_zero]
      show _ = (true && ((_ == Str.ofString "VF") && true))
      rw [Bool.and_true, Bool.true_and]; rfl
    · rw [T.out (by one_sign), List.drop_of_length_le (by one_sign)]; rfl
  have ez : ∀ l : List String, ((mkV lbS (csS ps) (Str.ofString "strict") (Str.ofString "pairs") false).ak ((i : Int) - 2) ["AK", "AS"]) = z := fun _ => by
    show _ = (decide ((i : Int) > 1) && inl (sw (wsS ps) (i - 2)) BASES)
    by_cases q : 2 ≤ i
    · rw [show (i : Int) - 2 = ((i - 2 : Nat) : Int) by one_sign, (akS h (by one_sign)).1, decide_eq_true (by one_sign)]; rfl
    · rw [decide_eq_false (by one_sign)]
      unfold Vw.ak
      rw [decide_eq_false (by one_sign)]; rfl
  have eA : rAksaras (mkV lbS (csS ps) (Str.ofString "strict") (Str.ofString "pairs") false) i = aksF (sw (wsS ps) (i - 1)) (sw (wsS ps) i) z y := by
    unfold rAksaras aksF
    simp only
    rw [ey, ez [], show (i : Int) - 1 = ((i - 1 : Nat) : Int) by one_sign, (akS h (k := i - 1) (by one_sign)).1, (akS h h1).1, (akS h h1).2, T.W (by one_sign) (by one_sign), T.W (by one_sign) (by one_sign), Int.toNat_natCast, Int.toNat_natCast]
  have eH : heldB (wsS ps) i = heldF (sw (wsS ps) (i - 1)) (sw (wsS ps) i) z y := by
    unfold heldB heldF
    show _ = (bif _ then true else bif _ then true else bif is (sw (wsS ps) (i - 1)) "VI" && ((decide ((i : Int) > 1) && inl (sw (wsS ps) (i - 2)) BASES) && inl (sw (wsS ps) i) ["AK", "AL"]) then true else _)
    rw [Bool.and_assoc]
  rw [eN, eA, eH, sw_wsS (by one_sign), sw_wsS h1]
  have c := allB (allB (allN (allN chkS_ok (getD_lt h (show i - 1 < ps.length by one_sign))) (getD_lt h h1)) z) y
  unfold chkS at c
  cases q : heldF (sy (ps.getD (i - 1) 0)) (sy (ps.getD i 0)) z y with
  | true => rw [q] at c; exact str_eq c
  | false => rw [q] at c; exact str_eq c
noncomputable def dueS (ws : List Str) (i : Nat) : List D := ss "no" :: (List.range i).map fun j => bif heldB ws (j + 1) then ss "no" else ss "may"
noncomputable def oppsS (ps : List Nat) : List D := (verL (mkV lbS (csS ps) (Str.ofString "strict") (Str.ofString "pairs") false) gcS eaS ((csS ps).length - 1)).map fstD
theorem plainS (h : ∀ p ∈ ps, p < 7) (ha : 1 ≤ ps.length) : oppsS ps = dueS (wsS ps) (ps.length - 1) ++ [ss "must"] := by
  have lc : (csS ps).length = ps.length := by simp [csS]
  have lo1 : (oppsS ps).length = ps.length + 1 := by unfold oppsS; rw [List.length_map, verL_len, mkV_len, lc]
  have ld : (dueS (wsS ps) (ps.length - 1)).length = ps.length := by unfold dueS; simp; one_sign
  apply List.ext_getElem
  · rw [lo1, List.length_append, ld]; rfl
  · intro k k1 k2
    have hk : k < ps.length + 1 := by one_sign
    have e1 : (oppsS ps)[k] = fstD (if k = 0 then no "LB2" else if k = ps.length then must "LB3" else if k ≤ ps.length - 1 then verdict (mkV lbS (csS ps) (Str.ofString "strict") (Str.ofString "pairs") false) gcS eaS k else no "LB9") := by
      simp only [oppsS, verL, List.getElem_map, List.getElem_range, mkV_len, lc]
    rw [e1]
    by_cases z : k = 0
    · subst z
      rw [if_pos rfl]; unfold dueS; rfl
    · rw [if_neg z]
      by_cases y : k = ps.length
      · subst y
        rw [if_pos rfl, List.getElem_append_right (by one_sign)]
        simp only [ld, Nat.sub_self]; rfl
      · rw [if_neg y, if_pos (by one_sign), placeS h (by one_sign) (by one_sign), List.getElem_append_left (by one_sign)]
        obtain ⟨j, rfl⟩ : ∃ j, k = j + 1 := ⟨k - 1, by one_sign⟩
        simp only [dueS, List.getElem_cons_succ, List.getElem_map, List.getElem_range]
end

-- row 01: the first sort
theorem sy_dist : ∀ p : Fin 7, ∀ i : Fin 7, i.val < p.val → (sy i.val == sy p.val) = false := by decide +kernel
theorem sy_al : ∀ p : Fin 7, (sy p.val == Str.ofString "AL") = decide (p.val = 5) := by decide +kernel
theorem sylls_at {p : Nat} (h : p < 7) : (sylls.map ss)[p]? = some (.str (sy p)) := by
  have : ∀ p : Fin 7, (sylls.map Str.ofString)[p.val]? = some (sy p.val) := by decide +kernel
  have := this ⟨p, h⟩
  rw [List.getElem?_map] at this ⊢
  cases q : sylls[p]? with
  | none => rw [q] at this; cases this
  | some x => rw [q] at this; simp only [Option.map_some, Option.some.injEq] at this ⊢; exact congrArg D.str this
theorem dueS_str {ws : List Str} {i : Nat} : ∀ d ∈ dueS ws i, ∃ s, d = .str s := fun d h => by
  unfold dueS at h
  rcases List.mem_cons.mp h with rfl | h
  · exact ⟨_, rfl⟩
  · obtain ⟨j, _, rfl⟩ := List.mem_map.mp h
    cases heldB ws (j + 1) <;> exact ⟨_, rfl⟩
section
variable {w : World} {mg mb : Str → Option Value} {lo : Lo} {n : Nat} {H : Hp}

theorem syllables_ok {H0 : Hp} {dk c : Addr} {Q : D → Hp → Prop} (hd : DeckOwn H0 H dk c []) (q : ∀ H', Q (.bool true) H') : CalC (mkG w mg mb lo) (n + 20) H (.ref 536) [.ref dk] Q := by
  refine CalC.fnC [Str.ofString "deck"] (by ktr_unf) (by ktr_unf) (fun vs hv => ?_) (fun L hL => ?_) (by decide) ?hlk
  case hlk =>
    intro L p hp
    have e : p = (Str.ofString "deck", L + 1) := by simpa [cellsFrom] using hp
    subst e; exact ⟨rfl, rfl⟩
  · match vs, hv with
    | [a], _ => rfl
  show Ex _ _ _ _ (Hp.set H (L + 1) (.cel (some (.ref dk)))) _ _
  have hd0 : DeckOwn H0 (Hp.set H (L + 1) (.cel (some (.ref dk)))) dk c [(L + 1, .cel (some (.ref dk)))] := hd.alloc (hL _ (Nat.le_succ _))
  revert hd0
  generalize Hp.set H (L + 1) (X.cel (some (.ref dk))) = H1
  intro hd0
  clear hd
  refine Ex.asg (Ev.callG (by ktr_unf) (by ktr_unf) (EvL.cons (EvP.to (d := .tup (sylls.map ss)) ?g0 (EvL.nil (CalC.cal (CalC.le (law_data_ok (n := n) (sorts := sylls) (by decide) opsS_ok fun da H2 hdb => Asg.name ?_) (by one_sign)))))))
  case g0 =>
    refine' EvP.conv ?g1 ?g2
    case g1 => exact EvP.glob (by ktr_unf) (IsTop.tup (by ktr_unf) rfl)
    case g2 => rfl
  obtain ⟨⟨dx, a1, a2, a3, a4, dl, es, hdl, hes, hnd, o5⟩, hok⟩ := hdb
  have hd1 : DeckOwn H0 H2 dk c (dbL da dx a1 a2 a3 a4 dl es ++ [(L + 1, .cel (some (.ref dk)))]) := hd0.trans o5
  replace hd1 : DeckOwn H0 H2 dk c ((L + 1, .cel (some (.ref dk))) :: dbL da dx a1 a2 a3 a4 dl es) := by
    obtain ⟨cs, mx, o, l⟩ := hd1
    exact ⟨cs, mx, o.perm (.cons _ (.cons _ List.perm_append_comm)), l⟩
  clear hd0 o5
  -- some
  refine' Ex.asgC (cl := [(Str.ofString "deck", L + 1)]) ?e1 ?e2 ?e3
  case e1 => one_sign
  case e3 => rfl
  case e2 =>
  refine Ev.locs (Ev.callTy (by ktr_unf) rfl (EvL.cons (Ev.bin (EvP.cint.to ?_))))
  refine Ev.callG (by ktr_unf) (by ktr_unf) (EvL.cons (EvP.to (EvP.cell rfl (hd1.get (.head _))) (EvL.cons (EvP.cint.to (EvL.nil ?_)))))
  refine CalC.cal (CalC.le (law_draw_ok (n := n) hd1 (by decide) fun v H7 v0 v1 hd2 => Bin.addI (EvL.nil (Cal.rng1 fun hL7 => ?_))) (by one_sign))
  refine ⟨isNm, H7, rngL 0 (1 + v), _, Itr.rng (by one_sign) (by one_sign) (by one_sign) (by one_sign), rfl, hL7, by rw [rngL_len, sizeLine_eq]; one_sign, fun C hC hCL => ?_⟩
  refine Lc.inv (fun i m' H' acc => DeckOwn H0 H' dk c ((L + 1, .cel (some (.ref dk))) :: dbL da dx a1 a2 a3 a4 dl es) ∧ ∃ ps : List Nat, acc = (wsS ps).map .str ∧ ps.length = i ∧ ∀ p ∈ ps, p < 7) ?_ ?_ ⟨hd2, [], rfl, rfl, fun p hp => by cases hp⟩
  · rintro i d m' H' acc hi' ⟨hd', ps, rfl, rfl, hp⟩
    refine ⟨trivial, Asg.name ⟨fun _ => ?_, fun h => by cases h⟩⟩
    refine Ev.item (EvP.to (d := .tup (sylls.map ss)) ?g0 (Ev.callG (by ktr_unf) (by ktr_unf) (EvL.cons (EvP.to (EvP.cell rfl (hd'.get (.head _))) (EvL.cons (EvP.cint.to (EvL.nil ?_)))))))
    case g0 =>
      refine' EvP.conv ?g1 ?g2
      case g1 => exact EvP.glob (by ktr_unf) (IsTop.tup (by ktr_unf) rfl)
      case g2 => rfl
    refine CalC.cal (CalC.le (law_draw_ok (n := n) hd' (by decide) fun u H8 u0 u1 hd8 => Item.tup (j := u.toNat) (d := .str (sy u.toNat)) (seqIndex_pos u0 u1) (sylls_at (by one_sign)) ⟨hd8, ps ++ [u.toNat], by simp [wsS], by simp, fun p hpp => ?_⟩ (by one_sign) (by one_sign)) (by one_sign))
    rcases List.mem_append.mp hpp with h | h
    · exact hp p h
    · rw [List.mem_singleton.mp h]; one_sign
  · rintro m' H8 acc ⟨hd8, ps, rfl, hpl, hp⟩
    refine ⟨trivial, fun sm hsm _ => Asg.name ?_⟩
    rw [rngL_len] at hpl
    have ha : 1 ≤ ps.length := by one_sign
    have hb : ps.length ≤ 7 := by one_sign
    have lw : (wsS ps).length = ps.length := by simp [wsS]
    have hd9 := hd8.alloc (x := .lst ((wsS ps).map .str)) hsm
    revert hd9
    generalize H8.set sm _ = H9
    intro hd9
    clear hd8 hd2 hd1 hpl hsm
    have ltx : ((wsS ps).map D.str).length = ps.length := by simp [wsS]
    -- text
    refine Ex.fresh fun hL9 => ?_
    refine' Ex.asgC (cl := []) ?f1 ?f2 ?f3
    case f1 => one_sign
    case f3 => rfl
    case f2 =>
    refine EvP.to (EvP.loc lset_self) ⟨_, _, _, _, Itr.lst (hd9.get (.head _)), rfl, hL9, by rw [ltx, sizeLine_eq]; one_sign, fun C' hC' hCL' => ?_⟩
    refine Lc.inv (fun i m' H' acc => H' = H9 ∧ acc = ((csS ps).take i).map .int) ?_ ?_ ⟨rfl, rfl⟩
    · rintro i d m' H' acc hi' ⟨rfl, rfl⟩
      obtain ⟨x, hx, rfl⟩ := map_inv hi'
      unfold wsS at hx
      rw [List.getElem?_map] at hx
      obtain ⟨p, hp1, rfl⟩ := Option.map_eq_some_iff.mp hx
      have hp7 := hp p (List.mem_of_getElem? hp1)
      have ecs : ((csS ps).take (i + 1)).map D.int = ((csS ps).take i).map D.int ++ [.int (cdS p)] := by
        rw [List.take_add_one, List.map_append]
        have : (csS ps)[i]? = some (cdS p) := by unfold csS; rw [List.getElem?_map, hp1]; rfl
        rw [this]; rfl
      refine ⟨hd9.get (.head _), Asg.name ⟨fun _ => ?_, fun h => by cases h⟩⟩
      refine Ev.ifx (EvPB.to (b := sy p == Str.ofString "AL") (EvPB.cmp (EvP.loc lset_self) EvP.cstr CmpP.eq) ⟨fun hb => ?_, fun hb => ?_⟩)
      · rw [sy_al ⟨p, hp7⟩] at hb
        have := of_decide_eq_true hb
        simp only at this
        subst this
        exact EvP.cint.to ⟨rfl, ecs.symm⟩
      · rw [sy_al ⟨p, hp7⟩] at hb
        have hne : ¬ p = 5 := of_decide_eq_false hb
        refine Ev.bin (EvP.cint.to (Ev.methB (T := "tuple") (id := "tuple.index") PySem.F.plainAttrs_tuple PySem.F.slot_tuple_index PySem.F.type_tuple_index ?_))
        refine EvP.to (EvP.glob (by ktr_unf) IsTop.ref) ⟨_, rfl, top_there (by ktr_unf) rfl rfl, EvL.cons (EvP.to (EvP.loc lset_self) (EvL.nil (Cal.tidx (j := p) (by ktr_unf) rfl ?t1 ?t2 ?t3 (Bin.addI ⟨rfl, ?t4⟩))))⟩
        case t1 => exact sylls_at hp7
        case t2 => exact fun i' hi' => ⟨sy i', sylls_at (by one_sign), sy_dist ⟨p, hp7⟩ ⟨i', by one_sign⟩ hi'⟩
        case t3 =>
          intro d hd
          obtain ⟨y, _, rfl⟩ := List.mem_map.mp (show d ∈ sylls.map ss from hd)
          exact ⟨_, rfl⟩
        case t4 =>
          rw [ecs]
          unfold cdS
          rw [if_neg hne]
    · rintro m' H' acc ⟨rfl, rfl⟩
      refine ⟨hd9.get (.head _), fun tx htx _ => Asg.name ?_⟩
      have lcs : (csS ps).length = ps.length := by simp [csS]
      rw [ltx, List.take_of_length_le (by one_sign)]
      have hd10 := hd9.alloc (x := .lst ((csS ps).map .int)) htx
      revert hd10
      generalize H'.set tx _ = H10
      intro hd10
      clear htx hd9 hL9
      refine Ex.asg (Ev.lst (EvL.cons (EvP.cstr.to (EvL.nil ⟨Nat.le_of_ble_eq_true rfl, fun du hdu _ => Asg.name ?_⟩))))
      have hd11 := hd10.alloc (x := .lst (dueS (wsS ps) 0)) hdu
      replace hd11 : DeckOwn H0 (H10.set du (.lst [.str (Str.ofString "no")])) dk c ((du, .lst (dueS (wsS ps) 0)) :: (tx, .lst ((csS ps).map .int)) :: (sm, .lst ((wsS ps).map .str)) :: (L + 1, .cel (some (.ref dk))) :: dbL da dx a1 a2 a3 a4 dl es) := hd11
      revert hd11
      generalize H10.set du (.lst [.str (Str.ofString "no")]) = H11
      intro hd11
      clear hdu hd10
      refine Ex.forRng2 (by one_sign) (by ktr_unf) rfl EvP.cint (EvP.callB (id := "len") (by ktr_unf) rfl (EvPL.cons (EvP.loc (by ktr_rel)) EvPL.nil) (CalP.lenL (hd11.get (.tail _ (.tail _ (.head _)))) (by one_sign))) (by one_sign) (by one_sign) (by one_sign) (by one_sign) rfl ?_
      refine Lp.inv (fun i m' H' => (m' (Str.ofString "data") = some (.ref da) ∧ m' (Str.ofString "some") = some (.ref sm) ∧ m' (Str.ofString "due") = some (.ref du) ∧ m' (Str.ofString "text") = some (.ref tx)) ∧ DeckOwn H0 H' dk c ((du, .lst (dueS (wsS ps) i)) :: (tx, .lst ((csS ps).map .int)) :: (sm, .lst ((wsS ps).map .str)) :: (L + 1, .cel (some (.ref dk))) :: dbL da dx a1 a2 a3 a4 dl es)) ?_ ?_ ⟨⟨by ktr_rel, by ktr_rel, by ktr_rel, by ktr_rel⟩, hd11⟩
      · clear hd11 H11
        rintro i d m3 H3 hi3 ⟨⟨n1, n2, n3, n4⟩, hd3⟩
        obtain ⟨rfl, hl3⟩ := rngL_inv hi3
        have hi4 : i + 1 < ps.length := by one_sign
        rw [show (1 : Int) + i = ((i + 1 : Nat) : Int) by one_sign]
        refine ⟨trivial, Asg.name ?_⟩
        have psm := hd3.get (.tail _ (.tail _ (.head _)))
        refine Ex.append (EvP.loc (lset_get (by decide) n3)) (hd3.get (.head _)) (EvP.to (EvP.ifx (EvPB.plain (EvP.callD (f := 531) (by ktr_unf) (EvP.glob (by ktr_unf) IsTop.ref) (EvPL.cons (EvP.loc (lset_get (by decide) n2)) (EvPL.cons (EvP.loc lset_self) EvPL.nil)) (CalP.le (n := n + 19) (is_held_ok (n := n) psm (i + 1) (by one_sign) (by one_sign) (by one_sign)) (by one_sign))) TruP.bool) (fun _ => EvP.cstr) (fun _ => EvP.cstr)) ⟨_, hd3.get (.head _), ?sz, Ex.nil ⟨⟨by ktr_rel, by ktr_rel, by ktr_rel, by ktr_rel⟩, ?_⟩⟩)
        case sz => unfold dueS; simp; rw [sizeLine_eq]; one_sign
        have := hd3.upd (y := .lst (dueS (wsS ps) i ++ [bif heldB (wsS ps) (i + 1) then ss "no" else ss "may"])) 0 rfl
        have e : dueS (wsS ps) (i + 1) = dueS (wsS ps) i ++ [bif heldB (wsS ps) (i + 1) then ss "no" else ss "may"] := by
          unfold dueS; rw [List.range_succ, List.map_append]; rfl
        rw [e]; exact this
      · clear hd11 H11
        rintro m3 H3 ⟨⟨n1, n2, n3, n4⟩, hd3⟩
        refine ⟨trivial, ?_⟩
        rw [rngL_len, show (((List.map D.str (wsS ps)).length : Int) - 1).toNat = ps.length - 1 by one_sign] at hd3
        refine Ex.fresh fun hL3 => Ex.ret (Ev.cmp ?_)
        refine Ev.callTy (by ktr_unf) rfl (EvL.cons ?_)
        refine Ev.methE (C := 394) (f := 363) me_LineBreaks_opportunities.1 me_LineBreaks_opportunities.2.1 me_LineBreaks_opportunities.2.2.1 me_LineBreaks_opportunities.2.2.2 ?_
        refine Ev.locs (Ev.callG (by ktr_unf) (by ktr_unf) (EvL.cons (EvP.to (EvP.loc n1) (EvL.nil ?_))))
        refine CalC.cal (CalC.le (LineBreaks1_ok (n := n) fun x dxb hw dh H4 ob hL4 => ?_) (by one_sign))
        have hd4 := hd3.trans ob
        refine ⟨x, dxb, brkD da hw, rfl, ob.get (.tail _ (.tail _ (.head _))), ob.get (.tail _ (.tail _ (.tail _ (.head _)))), rfl, EvL.cons (EvP.to (EvP.loc n4) (EvL.nil ?_))⟩
        have hDB : DB H0 H4 da (dbK (opsOf sylls) 8) := ⟨⟨dx, a1, a2, a3, a4, dl, es, hdl, hes, hnd, hd4.own.weak (.cons _ (.cons _ (.cons _ (.cons _ (.cons _ (.cons _ (.cons _ (.cons _ (.refl _)))))))))⟩, hok⟩
        have hcs : ∀ z ∈ csS ps, 0 ≤ z ∧ okV (lbS z) = true := fun z hz => by
          obtain ⟨p, hp2, rfl⟩ := List.mem_map.mp hz
          have hp7 := hp p hp2
          have t := tabS ⟨p, hp7⟩
          refine ⟨by unfold cdS; split <;> one_sign, ?_⟩
          rw [t.1]; exact t.2.2.1
        refine CalC.cal (CalC.le (n := n + 19) (opps_ok (n := n) (lb := lbS) (gc := gcS) (ea := eaS) (codes := csS ps) (x := x) (dx := dxb) (hw := hw) (dh := dh) (da := da) (S := Str.ofString "strict") (N := Str.ofString "pairs") (kp := false) ⟨?_, ?_, ?_, ?_⟩ (hd4.get (.tail _ (.tail _ (.tail _ (.tail _ (.tail _ (.head _))))))) (by one_sign) (by one_sign) (fun H'' s => DB.dat hDB s) (by decide) hcs fun op H5 o5 => ?_) (by one_sign))
        · exact hd4.get (.tail _ (.tail _ (.head _)))
        · exact hd4.get (.tail _ (.tail _ (.tail _ (.head _))))
        · exact hd4.get (.head _)
        · exact hd4.get (.tail _ (.head _))
        have hd6 := hd4.trans o5
        have pop : H5 op = some (.lst (oppsS ps)) := o5.get (.head _)
        have lo1 : (oppsS ps).length = ps.length + 1 := by unfold oppsS; rw [List.length_map, verL_len, mkV_len, lcs]
        refine EvL.nil (Cal.listL (LstAt.own pop) (by rw [lo1, sizeLine_eq]; one_sign) fun li hli => ?_)
        have hd7 := hd6.alloc (x := .lst (oppsS ps)) hli
        have pdu := hd7.get (a := du) (x := .lst (dueS (wsS ps) (ps.length - 1))) (.tail _ (.tail _ (.tail _ (.tail _ (.tail _ (.tail _ (.head _)))))))
        refine Ev.bin (EvP.to (EvP.loc n3) (Ev.lst (EvL.cons (EvP.cstr.to (EvL.nil ⟨Nat.le_of_ble_eq_true rfl, fun mu hmu _ => ?_⟩)))))
        have ld : (dueS (wsS ps) (ps.length - 1)).length = ps.length := by unfold dueS; simp; one_sign
        refine Bin.addL (LstAt.own (Hp.keep hmu pdu)) (LstAt.own (Hp.set_self ..)) (by rw [ld, sizeLine_eq]; simp; one_sign) fun su hsu => ?_
        have hpl := plainS hp ha
        have hstr2 : ∀ d ∈ dueS (wsS ps) (ps.length - 1) ++ [ss "must"], ∃ s, d = .str s := fun d hd => by
          rcases List.mem_append.mp hd with h | h
          · exact dueS_str d h
          · exact ⟨_, List.mem_singleton.mp h⟩
        have hstr : ∀ d ∈ oppsS ps, ∃ s, d = .str s := by rw [hpl]; exact hstr2
        refine Cmp.eqL (Hp.keep hsu (Hp.keep hmu (Hp.set_self ..))) (Hp.set_self ..) ?_ (dk_str hstr hstr2) (by one_sign)
        rw [leq_str hpl hstr]
        exact q _
end

-- row 01: is it a number, as the law reads it
noncomputable def headS (l : List Str) : Str := l.headD ⟨#[]⟩
noncomputable def lastS (l : List Str) : Str := l.getLast?.getD ⟨#[]⟩
noncomputable def cutH (x : List String) (l : List Str) : List Str := bif !l.isEmpty && inl (headS l) x then l.tail else l
noncomputable def cutT (x : List String) (l : List Str) : List Str := bif !l.isEmpty && inl (lastS l) x then l.dropLast else l
noncomputable def numCut (l : List Str) : List Str := cutT ["CL", "CP"] (cutT ["PR", "PO"] (cutH ["OP", "HY"] (cutH ["PR", "PO"] l)))
noncomputable def isNumB (l : List Str) : Bool := !(numCut l).isEmpty && (is (headS (numCut l)) "NU" && ((numCut l).filter fun x => !inl x INNER).isEmpty)
theorem cutH_len {x : List String} {l : List Str} : (cutH x l).length ≤ l.length := by unfold cutH; cases !l.isEmpty && inl (headS l) x <;> simp
theorem cutT_len {x : List String} {l : List Str} : (cutT x l).length ≤ l.length := by unfold cutT; cases !l.isEmpty && inl (lastS l) x <;> simp
section
variable {w : World} {mg mb : Str → Option Value} {lo : Lo} {n : Nat} {H : Hp}

theorem strs_head {l : List Str} (h : (!l.isEmpty) = true) : (l.map D.str)[(0 : Int).toNat]? = some (.str (headS l)) := by
  cases l with
  | nil => cases h
  | cons a r => rfl
theorem strs_last {l : List Str} (h : (!l.isEmpty) = true) : (l.map D.str).getLast? = some (.str (lastS l)) := by
  have hne : l ≠ [] := by rintro rfl; cases h
  unfold lastS
  rw [List.getLast?_map, List.getLast?_eq_some_getLast hne]; rfl
theorem strs_empty (l : List Str) : (l.map D.str).isEmpty = l.isEmpty := by cases l <;> rfl
theorem is_number_law_ok {sm : Addr} {ws : List Str} (hs : H sm = some (.lst (ws.map .str))) (hz : ws.length ≤ 50) : CalP (mkG w mg mb lo) (n + 4) H (.ref 541) [.ref sm] (.bool (isNumB ws)) := by
  refine CalC.p ?_
  refine CalC.fn (es := [.ref sm]) [Str.ofString "some"] (by ktr_unf) (by ktr_unf) (fun B T s vs k i => BindsTo.one (fun a => rfl) i) (fun L hL => ?_)
  refine Ex.asg (Ev.callTy (by ktr_unf) rfl (EvL.cons (EvP.to (EvP.loc rfl) (EvL.nil (Cal.listL (LstAt.own hs) (by rw [List.length_map, sizeLine_eq]; one_sign) fun a ha => Asg.name ?_)))))
  have o0 : Own H (H.set a (.lst (ws.map .str))) [(a, .lst (ws.map .str))] := (Own.refl H).alloc ha
  have m0 : (lset (locOf [Str.ofString "some"] [D.ref sm]) (Str.ofString "some") (D.ref a)) (Str.ofString "some") = some (.ref a) := lset_self
  revert o0 m0
  generalize H.set a (.lst (ws.map .str)) = H0
  generalize lset (locOf [Str.ofString "some"] [D.ref sm]) (Str.ofString "some") (D.ref a) = m
  intro o0 m0
  -- ahead: PR, PO
  refine Ex.iteJ (b := !ws.isEmpty && inl (headS ws) ["PR", "PO"]) (P := fun m' H' => m' (Str.ofString "some") = some (.ref a) ∧ Own H H' [(a, .lst ((cutH ["PR", "PO"] ws).map .str))]) ?_ (fun hb => ?_) (fun hb => ⟨m0, ?_⟩) ?_
  · rw [← strs_empty]
    exact EvPB.and (EvPB.neNil (EvP.loc m0) (o0.get (.head _)) (by one_sign)) fun hb => EvPB.and1 (EvPB.cmp (EvP.item (EvP.loc m0) EvP.cint (ItemP.lst (o0.get (.head _)) (by decide) (strs_head (by rw [← strs_empty]; exact hb)) (by rw [List.length_map]; one_sign))) (EvP.tup (EvPL.cons EvP.cstr (EvPL.cons EvP.cstr EvPL.nil))) (CmpP.inT rfl (by one_sign)))
  · unfold cutH; rw [hb]
    cases ws with
    | nil => cases hb
    | cons x r =>
      refine Ex.fresh fun hLb => Ex.expr (Ev.methB (T := "list") (id := "list.pop") PySem.F.plainAttrs_list PySem.F.slot_list_pop PySem.F.type_list_pop (EvP.to (EvP.loc m0) ⟨a, rfl, list_there hLb (o0.get (.head _)), EvL.cons (EvP.cint.to (EvL.nil (Cal.pop0 (o0.get (.head _)) (by rw [List.length_map, sizeLine_eq]; simp at hz; one_sign) (Ex.nil ⟨rfl, m0, o0.upd 0 rfl⟩))))⟩))
  · unfold cutH; rw [hb]; exact o0
  clear o0 m0
  rintro m1 H1 ⟨m1, o1⟩
  have z1 : (cutH ["PR", "PO"] ws).length ≤ 50 := Nat.le_trans cutH_len hz
  unfold isNumB numCut
  generalize cutH ["PR", "PO"] ws = l1 at *
  refine Ex.iteJ (b := !l1.isEmpty && inl (headS l1) ["OP", "HY"]) (P := fun m' H' => m' (Str.ofString "some") = some (.ref a) ∧ Own H H' [(a, .lst ((cutH ["OP", "HY"] l1).map .str))]) ?_ (fun hb => ?_) (fun hb => ⟨m1, ?_⟩) ?_
  · rw [← strs_empty]
    exact EvPB.and (EvPB.neNil (EvP.loc m1) (o1.get (.head _)) (by one_sign)) fun hb => EvPB.and1 (EvPB.cmp (EvP.item (EvP.loc m1) EvP.cint (ItemP.lst (o1.get (.head _)) (by decide) (strs_head (by rw [← strs_empty]; exact hb)) (by rw [List.length_map]; one_sign))) (EvP.tup (EvPL.cons EvP.cstr (EvPL.cons EvP.cstr EvPL.nil))) (CmpP.inT rfl (by one_sign)))
  · unfold cutH; rw [hb]
    cases l1 with
    | nil => cases hb
    | cons x r =>
      refine Ex.fresh fun hLb => Ex.expr (Ev.methB (T := "list") (id := "list.pop") PySem.F.plainAttrs_list PySem.F.slot_list_pop PySem.F.type_list_pop (EvP.to (EvP.loc m1) ⟨a, rfl, list_there hLb (o1.get (.head _)), EvL.cons (EvP.cint.to (EvL.nil (Cal.pop0 (o1.get (.head _)) (by rw [List.length_map, sizeLine_eq]; simp at z1; one_sign) (Ex.nil ⟨rfl, m1, o1.upd 0 rfl⟩))))⟩))
  · unfold cutH; rw [hb]; exact o1
  clear o1 m1 H1
  rintro m2 H2 ⟨m2, o2⟩
  have z2 : (cutH ["OP", "HY"] l1).length ≤ 50 := Nat.le_trans cutH_len z1
  generalize cutH ["OP", "HY"] l1 = l2 at *
  refine Ex.iteJ (b := !l2.isEmpty && inl (lastS l2) ["PR", "PO"]) (P := fun m' H' => m' (Str.ofString "some") = some (.ref a) ∧ Own H H' [(a, .lst ((cutT ["PR", "PO"] l2).map .str))]) ?_ (fun hb => ?_) (fun hb => ⟨m2, ?_⟩) ?_
  · rw [← strs_empty]
    exact EvPB.and (EvPB.neNil (EvP.loc m2) (o2.get (.head _)) (by one_sign)) fun hb => EvPB.and1 (EvPB.cmp (EvP.item (EvP.loc m2) (EvP.neg EvP.cint) (ItemP.last (o2.get (.head _)) (strs_last (by rw [← strs_empty]; exact hb)) (by rw [List.length_map]; one_sign))) (EvP.tup (EvPL.cons EvP.cstr (EvPL.cons EvP.cstr EvPL.nil))) (CmpP.inT rfl (by one_sign)))
  · unfold cutT; rw [hb]
    have he : (!l2.isEmpty) = true := (Bool.and_eq_true_iff.mp hb).1
    refine Ex.fresh fun hLb => Ex.expr (Ev.methB0 (T := "list") (id := "list.pop") PySem.F.plainAttrs_list PySem.F.slot_list_pop PySem.F.type_list_pop (EvP.to (EvP.loc m2) ⟨a, rfl, list_there hLb (o2.get (.head _)), Cal.pop (o2.get (.head _)) (strs_last he) (by rw [List.length_map, sizeLine_eq]; one_sign) (Ex.nil ⟨rfl, m2, ?_⟩)⟩))
    rw [← List.map_dropLast]; exact o2.upd 0 rfl
  · unfold cutT; rw [hb]; exact o2
  clear o2 m2 H2
  rintro m3 H3 ⟨m3, o3⟩
  have z3 : (cutT ["PR", "PO"] l2).length ≤ 50 := Nat.le_trans cutT_len z2
  generalize cutT ["PR", "PO"] l2 = l3 at *
  refine Ex.iteJ (b := !l3.isEmpty && inl (lastS l3) ["CL", "CP"]) (P := fun m' H' => m' (Str.ofString "some") = some (.ref a) ∧ Own H H' [(a, .lst ((cutT ["CL", "CP"] l3).map .str))]) ?_ (fun hb => ?_) (fun hb => ⟨m3, ?_⟩) ?_
  · rw [← strs_empty]
    exact EvPB.and (EvPB.neNil (EvP.loc m3) (o3.get (.head _)) (by one_sign)) fun hb => EvPB.and1 (EvPB.cmp (EvP.item (EvP.loc m3) (EvP.neg EvP.cint) (ItemP.last (o3.get (.head _)) (strs_last (by rw [← strs_empty]; exact hb)) (by rw [List.length_map]; one_sign))) (EvP.tup (EvPL.cons EvP.cstr (EvPL.cons EvP.cstr EvPL.nil))) (CmpP.inT rfl (by one_sign)))
  · unfold cutT; rw [hb]
    have he : (!l3.isEmpty) = true := (Bool.and_eq_true_iff.mp hb).1
    refine Ex.fresh fun hLb => Ex.expr (Ev.methB0 (T := "list") (id := "list.pop") PySem.F.plainAttrs_list PySem.F.slot_list_pop PySem.F.type_list_pop (EvP.to (EvP.loc m3) ⟨a, rfl, list_there hLb (o3.get (.head _)), Cal.pop (o3.get (.head _)) (strs_last he) (by rw [List.length_map, sizeLine_eq]; one_sign) (Ex.nil ⟨rfl, m3, ?_⟩)⟩))
    rw [← List.map_dropLast]; exact o3.upd 0 rfl
  · unfold cutT; rw [hb]; exact o3
  clear o3 m3 H3
  rintro m4 H4 ⟨m4, o4⟩
  have z4 : (cutT ["CL", "CP"] l3).length ≤ 50 := Nat.le_trans cutT_len z3
  generalize cutT ["CL", "CP"] l3 = l4 at *
  have e4 := strs_empty l4
  refine Ex.fresh fun hL4 => Ex.ret (EvP.to (EvP.conv (EvP.and (EvP.neNil (EvP.loc m4) (o4.get (.head _)) (by one_sign)) fun hb => EvP.and (EvP.cmp (EvP.item (EvP.loc m4) EvP.cint (ItemP.lst (o4.get (.head _)) (by decide) (strs_head (by rw [← strs_empty]; exact hb)) (by rw [List.length_map]; one_sign))) EvP.cstr CmpP.eq) fun _ => EvP.one (Ev.p (d := .bool (l4.filter fun x => !inl x INNER).isEmpty) ?_)) (by rw [e4]; rfl)) ⟨o4.sub, rfl⟩)
  refine Ev.eqNil (Ev.comp (cl := []) (by one_sign) ?_ ?hcl) (by one_sign)
  case hcl => rfl
  refine EvP.to (EvP.loc m4) ⟨_, _, _, _, Itr.lst (o4.get (.head _)), rfl, hL4, by rw [List.length_map, sizeLine_eq]; one_sign, fun C hC hCL => ?_⟩
  refine Lc.inv (fun i m' H' acc => H' = H4 ∧ acc = ((l4.take i).filter fun x => !inl x INNER).map .str) ?_ ?_ ⟨rfl, rfl⟩
  · rintro i d m' H' acc hi ⟨rfl, rfl⟩
    obtain ⟨x, hx, rfl⟩ := map_inv hi
    have et : ((l4.take (i + 1)).filter fun x => !inl x INNER).map D.str = ((l4.take i).filter fun x => !inl x INNER).map D.str ++ (bif !inl x INNER then [D.str x] else []) := by
      rw [List.take_add_one, List.filter_append, List.map_append, hx]
      cases q : !inl x INNER <;> simp [q]
    refine ⟨o4.get (.head _), Asg.name (EvPB.to (b := !inl x INNER) (EvPB.cmp (EvP.loc lset_self) (EvP.tup (EvPL.cons EvP.cstr (EvPL.cons EvP.cstr (EvPL.cons EvP.cstr EvPL.nil)))) (CmpP.ninT rfl (by one_sign))) ⟨fun hb => EvP.to (EvP.loc lset_self) ⟨rfl, ?_⟩, fun hb => ⟨rfl, ?_⟩⟩)⟩
    · rw [et, hb]; rfl
    · rw [et, hb]; simp
  · rintro m' H' acc ⟨rfl, rfl⟩
    refine ⟨o4.get (.head _), fun b hb _ => ⟨b, _, rfl, Hp.set_self .., fun H2 s2 => ⟨(Sub.set hb).trans s2, ?_⟩⟩⟩
    rw [List.length_map, List.take_length, strs_empty]
end

-- row 01: the second sort, its plain law
noncomputable def numAt (ws : List Str) : Nat → Bool
  | 0 => false
  | k + 1 => is (sw ws k) "NU" || (numAt ws k && inl (sw ws k) INNER)
noncomputable def exprB (ws : List Str) (i : Nat) : Bool :=
  (inl (sw ws (i - 1)) AFFIX && (is (sw ws i) "NU" || (inl (sw ws i) ["OP", "HY"] && is (sw ws (i + 1)) "NU")) || (inl (sw ws (i - 1)) ["OP", "HY"] && is (sw ws i) "NU")) ||
  (bif inl (sw ws i) INNER || inl (sw ws i) ["CL", "CP"] then numAt ws i else bif inl (sw ws i) AFFIX then numAt ws (bif inl (sw ws (i - 1)) ["CL", "CP"] then i - 1 else i) else false)
noncomputable def cutW (ws : List Str) (low high : Nat) : List Str := (ws.drop low).take (high - low)
noncomputable def heldP (ws : List Str) (i : Nat) : Prop := ∃ low high, low < i ∧ i < high ∧ high ≤ ws.length ∧ isNumB (cutW ws low high) = true
theorem sw_app (A B : List Str) (k : Nat) : sw (A ++ B) k = if k < A.length then sw A k else sw B (k - A.length) := by
  unfold sw
  rw [List.getD_eq_getElem?_getD, List.getElem?_append]
  split <;> rw [List.getD_eq_getElem?_getD]
theorem sw_cut {ws : List Str} {low high k : Nat} (h : k < high - low) : sw (cutW ws low high) k = sw ws (low + k) := by
  unfold sw cutW
  rw [List.getD_eq_getElem?_getD, List.getElem?_take_of_lt h, List.getElem?_drop, List.getD_eq_getElem?_getD]
theorem sw_out {ws : List Str} {k : Nat} (h : ws.length ≤ k) : sw ws k = ⟨#[]⟩ := by unfold sw; rw [List.getD_eq_getElem?_getD, List.getElem?_eq_none_iff.mpr h]; rfl
theorem inl_mem {a : Str} {l : List String} (h : inl a l = true) : ∃ s ∈ l, a = Str.ofString s := by
  unfold inl at h
  obtain ⟨s, h1, h2⟩ := List.any_eq_true.mp h
  exact ⟨s, h1, (beq_iff_eq.mp h2).symm⟩
theorem inl_not {a : Str} {l l' : List String} (h : inl a l = true) (d : (l.all fun s => !inl (Str.ofString s) l') = true) : inl a l' = false := by
  obtain ⟨s, h1, rfl⟩ := inl_mem h
  simpa using List.all_eq_true.mp d s h1
theorem numAt_of {ws : List Str} {j k : Nat} (hj : j < k) (h : is (sw ws j) "NU" = true) (hi : ∀ t, j < t → t < k → inl (sw ws t) INNER = true) : numAt ws k = true := by
  induction k with
  | zero => one_sign
  | succ k ih =>
    unfold numAt
    by_cases e : j = k
    · subst e; rw [h]; rfl
    · rw [ih (by one_sign) (fun t a b => hi t a (by one_sign)), hi k (by one_sign) (by one_sign)]; simp
theorem numAt_inv {ws : List Str} {k : Nat} (h : numAt ws k = true) : ∃ j, j < k ∧ is (sw ws j) "NU" = true ∧ ∀ t, j < t → t < k → inl (sw ws t) INNER = true := by
  induction k with
  | zero => cases h
  | succ k ih =>
    unfold numAt at h
    rcases Bool.or_eq_true_iff.mp h with h | h
    · exact ⟨k, by one_sign, h, fun t a b => by one_sign⟩
    · obtain ⟨a, b⟩ := Bool.and_eq_true_iff.mp h
      obtain ⟨j, j1, j2, j3⟩ := ih a
      refine ⟨j, by one_sign, j2, fun t t1 t2 => ?_⟩
      by_cases e : t = k
      · subst e; exact b
      · exact j3 t t1 (by one_sign)
noncomputable def One (x : List String) (P : List Str) : Prop := P = [] ∨ ∃ p, P = [p] ∧ inl p x = true
theorem cutH_one {x : List String} {l : List Str} : ∃ P, l = P ++ cutH x l ∧ One x P := by
  unfold cutH
  cases q : !l.isEmpty && inl (headS l) x with
  | false => exact ⟨[], rfl, .inl rfl⟩
  | true =>
    obtain ⟨a, b⟩ := Bool.and_eq_true_iff.mp q
    cases l with
    | nil => cases a
    | cons y r => exact ⟨[y], rfl, .inr ⟨y, rfl, b⟩⟩
theorem cutT_one {x : List String} {l : List Str} : ∃ P, l = cutT x l ++ P ∧ One x P := by
  unfold cutT
  cases q : !l.isEmpty && inl (lastS l) x with
  | false => exact ⟨[], by simp, .inl rfl⟩
  | true =>
    obtain ⟨a, b⟩ := Bool.and_eq_true_iff.mp q
    have hne : l ≠ [] := by rintro rfl; cases a
    have e : lastS l = l.getLast hne := by unfold lastS; rw [List.getLast?_eq_some_getLast hne]; rfl
    exact ⟨[l.getLast hne], (List.dropLast_concat_getLast hne).symm, .inr ⟨_, rfl, e ▸ b⟩⟩
theorem isNum_inv {l : List Str} (h : isNumB l = true) : ∃ P O x r C F, l = P ++ (O ++ ((x :: r) ++ (C ++ F))) ∧ One AFFIX P ∧ One ["OP", "HY"] O ∧ is x "NU" = true ∧ (∀ t ∈ r, inl t INNER = true) ∧ One ["CL", "CP"] C ∧ One AFFIX F := by
  unfold isNumB at h
  obtain ⟨h1, h2⟩ := Bool.and_eq_true_iff.mp h
  obtain ⟨h2, h3⟩ := Bool.and_eq_true_iff.mp h2
  obtain ⟨P, e1, p1⟩ := cutH_one (x := ["PR", "PO"]) (l := l)
  obtain ⟨O, e2, p2⟩ := cutH_one (x := ["OP", "HY"]) (l := cutH ["PR", "PO"] l)
  obtain ⟨F, e3, p3⟩ := cutT_one (x := ["PR", "PO"]) (l := cutH ["OP", "HY"] (cutH ["PR", "PO"] l))
  obtain ⟨C, e4, p4⟩ := cutT_one (x := ["CL", "CP"]) (l := cutT ["PR", "PO"] (cutH ["OP", "HY"] (cutH ["PR", "PO"] l)))
  have e5 : numCut l = cutT ["CL", "CP"] (cutT ["PR", "PO"] (cutH ["OP", "HY"] (cutH ["PR", "PO"] l))) := rfl
  rw [← e5] at e4
  cases q : numCut l with
  | nil => rw [q] at h1; cases h1
  | cons x r =>
    rw [q] at h2 h3 e4
    refine ⟨P, O, x, r, C, F, ?_, p1, p2, h2, fun t ht => ?_, p4, p3⟩
    · rw [← List.append_assoc (x :: r), ← e4, ← e3, ← e2, ← e1]
    · have := List.isEmpty_iff.mp h3
      rw [List.filter_eq_nil_iff] at this
      simpa using this t (.tail _ ht)
theorem cutH_app {x : List String} {P l : List Str} (hP : One x P) (hl : (!l.isEmpty && inl (headS l) x) = false) (hne : l ≠ []) : cutH x (P ++ l) = l := by
  rcases hP with rfl | ⟨p, rfl, hp⟩
  · unfold cutH; rw [List.nil_append, hl]; rfl
  · unfold cutH
    show (bif !(p :: l).isEmpty && inl p x then l else p :: l) = l
    rw [hp]; rfl
theorem cutT_app {x : List String} {P l : List Str} (hP : One x P) (hl : inl (lastS l) x = false) : cutT x (l ++ P) = l := by
  rcases hP with rfl | ⟨p, rfl, hp⟩
  · unfold cutT; rw [List.append_nil, hl, Bool.and_false]; rfl
  · unfold cutT
    have e : lastS (l ++ [p]) = p := by unfold lastS; simp
    have e2 : (l ++ [p]).isEmpty = false := by simp
    rw [e, hp, e2]; simp
theorem lastS_mem {l : List Str} (h : l ≠ []) : lastS l ∈ l := by
  unfold lastS; rw [List.getLast?_eq_some_getLast h]; exact List.getLast_mem h
theorem nu_inner {x : Str} (h : is x "NU" = true) : inl x INNER = true := by
  unfold is at h; rw [beq_iff_eq.mp h]; decide
theorem isNum_mk {P O r C F : List Str} {x : Str} (hP : One AFFIX P) (hO : One ["OP", "HY"] O) (hx : is x "NU" = true) (hr : ∀ t ∈ r, inl t INNER = true) (hC : One ["CL", "CP"] C) (hF : One AFFIX F) : isNumB (P ++ (O ++ ((x :: r) ++ (C ++ F)))) = true := by
  have hin : ∀ t ∈ x :: r, inl t INNER = true := fun t ht => by
    rcases List.mem_cons.mp ht with rfl | ht
    · exact nu_inner hx
    · exact hr t ht
  have xe : x = Str.ofString "NU" := beq_iff_eq.mp hx
  have e1 : cutH ["PR", "PO"] (P ++ (O ++ ((x :: r) ++ (C ++ F)))) = O ++ ((x :: r) ++ (C ++ F)) := by
    refine cutH_app hP ?_ (by simp)
    rcases hO with rfl | ⟨o, rfl, ho⟩
    · show (_ && inl x _) = false
      rw [xe, Bool.and_eq_false_iff]; right; decide
    · show (_ && inl o _) = false
      rw [inl_not ho (l' := ["PR", "PO"]) (by decide), Bool.and_false]
  have e2 : cutH ["OP", "HY"] (O ++ ((x :: r) ++ (C ++ F))) = (x :: r) ++ (C ++ F) := by
    refine cutH_app hO ?_ (by simp)
    show (_ && inl x _) = false
    rw [xe, Bool.and_eq_false_iff]; right; decide
  have hlast : inl (lastS (x :: r)) INNER = true := hin _ (lastS_mem (by simp))
  have e3 : cutT ["PR", "PO"] ((x :: r) ++ (C ++ F)) = (x :: r) ++ C := by
    rw [← List.append_assoc]
    refine cutT_app hF ?_
    rcases hC with rfl | ⟨c, rfl, hc⟩
    · rw [List.append_nil]; exact inl_not hlast (by decide)
    · have : lastS ((x :: r) ++ [c]) = c := by unfold lastS; rw [List.getLast?_append]; rfl
      rw [this]; exact inl_not hc (by decide)
  have e4 : cutT ["CL", "CP"] ((x :: r) ++ C) = x :: r := cutT_app hC (inl_not hlast (by decide))
  unfold isNumB numCut
  rw [e1, e2, e3, e4]
  have : (x :: r).filter (fun x => !inl x INNER) = [] := List.filter_eq_nil_iff.mpr fun t ht => by rw [hin t ht]; decide
  rw [this]
  show (true && (is x "NU" && true)) = true
  rw [hx]; rfl
theorem cutW_len {ws : List Str} {low high : Nat} (h : high ≤ ws.length) : (cutW ws low high).length = high - low := by unfold cutW; rw [List.length_take, List.length_drop]; one_sign
theorem cutW_split {ws : List Str} {low mid high : Nat} (h1 : low ≤ mid) (h2 : mid ≤ high) : cutW ws low high = cutW ws low mid ++ cutW ws mid high := by
  unfold cutW
  rw [show high - low = (mid - low) + (high - mid) by one_sign, List.take_add, List.drop_drop, show low + (mid - low) = mid by one_sign]
theorem cutW_one {ws : List Str} {k : Nat} (h : k < ws.length) : cutW ws k (k + 1) = [sw ws k] := by
  unfold cutW sw
  rw [List.drop_eq_getElem_cons h, show k + 1 - k = 1 by one_sign, List.take_succ_cons, List.take_zero, List.getD_eq_getElem?_getD, List.getElem?_eq_getElem h]; rfl
theorem cutW_mem {ws : List Str} {low high : Nat} {t : Str} (hh : high ≤ ws.length) (h : t ∈ cutW ws low high) : ∃ k, low ≤ k ∧ k < high ∧ t = sw ws k := by
  obtain ⟨j, hj, e⟩ := List.mem_iff_getElem.mp h
  rw [cutW_len hh] at hj
  refine ⟨low + j, by one_sign, by one_sign, ?_⟩
  rw [← sw_cut hj, ← e]
  unfold sw
  rw [List.getD_eq_getElem?_getD, List.getElem?_eq_getElem (by rw [cutW_len hh]; exact hj)]; rfl
theorem held_of {ws : List Str} {i : Nat} (h0 : 1 ≤ i) (h1 : i < ws.length) (h : exprB ws i = true) : heldP ws i := by
  have pair : cutW ws (i - 1) (i + 1) = [sw ws (i - 1), sw ws i] := by
    rw [cutW_split (mid := i) (by one_sign) (by one_sign), cutW_one h1]
    have := cutW_one (ws := ws) (k := i - 1) (by one_sign)
    rw [show i - 1 + 1 = i by one_sign] at this
    rw [this]; rfl
  -- a run that begins at j
  have run : ∀ {j e : Nat}, j < e → e ≤ i → is (sw ws j) "NU" = true → (∀ t, j < t → t < e → inl (sw ws t) INNER = true) → ∃ x r, cutW ws j e = x :: r ∧ is x "NU" = true ∧ ∀ t ∈ r, inl t INNER = true := fun {j e} hj he hn hi => by
    refine ⟨sw ws j, cutW ws (j + 1) e, ?_, hn, fun t ht => ?_⟩
    · rw [cutW_split (mid := j + 1) (by one_sign) (by one_sign), cutW_one (by one_sign)]; rfl
    · obtain ⟨k, k1, k2, rfl⟩ := cutW_mem (by one_sign) ht
      exact hi k (by one_sign) k2
  unfold exprB at h
  rcases Bool.or_eq_true_iff.mp h with h | h
  · rcases Bool.or_eq_true_iff.mp h with h | h
    · obtain ⟨ha, h⟩ := Bool.and_eq_true_iff.mp h
      rcases Bool.or_eq_true_iff.mp h with h | h
      · refine ⟨i - 1, i + 1, by one_sign, by one_sign, by one_sign, ?_⟩
        rw [pair]
        exact isNum_mk (P := [sw ws (i - 1)]) (O := []) (r := []) (C := []) (F := []) (.inr ⟨_, rfl, ha⟩) (.inl rfl) h (fun t ht => by cases ht) (.inl rfl) (.inl rfl)
      · obtain ⟨hb, hy⟩ := Bool.and_eq_true_iff.mp h
        have hl : i + 1 < ws.length := by
          refine Nat.lt_of_not_le fun q => ?_
          rw [sw_out q] at hy; cases hy
        refine ⟨i - 1, i + 2, by one_sign, by one_sign, by one_sign, ?_⟩
        rw [cutW_split (mid := i + 1) (by one_sign) (by one_sign), pair, cutW_one hl]
        exact isNum_mk (P := [sw ws (i - 1)]) (O := [sw ws i]) (r := []) (C := []) (F := []) (.inr ⟨_, rfl, ha⟩) (.inr ⟨_, rfl, hb⟩) hy (fun t ht => by cases ht) (.inl rfl) (.inl rfl)
    · obtain ⟨ha, hb⟩ := Bool.and_eq_true_iff.mp h
      refine ⟨i - 1, i + 1, by one_sign, by one_sign, by one_sign, ?_⟩
      rw [pair]
      exact isNum_mk (P := []) (O := [sw ws (i - 1)]) (r := []) (C := []) (F := []) (.inl rfl) (.inr ⟨_, rfl, ha⟩) hb (fun t ht => by cases ht) (.inl rfl) (.inl rfl)
  · cases q : inl (sw ws i) INNER || inl (sw ws i) ["CL", "CP"] with
    | true =>
      rw [q] at h
      obtain ⟨j, j1, j2, j3⟩ := numAt_inv (show numAt ws i = true from h)
      refine ⟨j, i + 1, j1, by one_sign, by one_sign, ?_⟩
      obtain ⟨x, r, e, hx, hr⟩ := run j1 (Nat.le_refl _) j2 j3
      rw [cutW_split (mid := i) (by one_sign) (by one_sign), e, cutW_one h1]
      rcases Bool.or_eq_true_iff.mp q with q | q
      · have := isNum_mk (P := []) (O := []) (x := x) (r := r ++ [sw ws i]) (C := []) (F := []) (.inl rfl) (.inl rfl) hx (fun t ht => by
          rcases List.mem_append.mp ht with ht | ht
          · exact hr t ht
          · rw [List.mem_singleton.mp ht]; exact q) (.inl rfl) (.inl rfl)
        simpa using this
      · have := isNum_mk (P := []) (O := []) (x := x) (r := r) (C := [sw ws i]) (F := []) (.inl rfl) (.inl rfl) hx hr (.inr ⟨_, rfl, q⟩) (.inl rfl)
        simpa using this
    | false =>
      rw [q] at h
      cases qa : inl (sw ws i) AFFIX with
      | false => rw [qa] at h; cases h
      | true =>
        rw [qa] at h
        cases qc : inl (sw ws (i - 1)) ["CL", "CP"] with
        | false =>
          rw [qc] at h
          obtain ⟨j, j1, j2, j3⟩ := numAt_inv (show numAt ws i = true from h)
          refine ⟨j, i + 1, j1, by one_sign, by one_sign, ?_⟩
          obtain ⟨x, r, e, hx, hr⟩ := run j1 (Nat.le_refl _) j2 j3
          rw [cutW_split (mid := i) (by one_sign) (by one_sign), e, cutW_one h1]
          have := isNum_mk (P := []) (O := []) (x := x) (r := r) (C := []) (F := [sw ws i]) (.inl rfl) (.inl rfl) hx hr (.inl rfl) (.inr ⟨_, rfl, qa⟩)
          simpa using this
        | true =>
          rw [qc] at h
          obtain ⟨j, j1, j2, j3⟩ := numAt_inv (show numAt ws (i - 1) = true from h)
          refine ⟨j, i + 1, by one_sign, by one_sign, by one_sign, ?_⟩
          obtain ⟨x, r, e, hx, hr⟩ := run j1 (by one_sign) j2 j3
          rw [cutW_split (mid := i - 1) (by one_sign) (by one_sign), e, pair]
          have := isNum_mk (P := []) (O := []) (x := x) (r := r) (C := [sw ws (i - 1)]) (F := [sw ws i]) (.inl rfl) (.inl rfl) hx hr (.inr ⟨_, rfl, qc⟩) (.inr ⟨_, rfl, qa⟩)
          simpa using this
theorem of_held {ws : List Str} {i : Nat} (h : heldP ws i) : exprB ws i = true := by
  obtain ⟨low, high, h1, h2, h3, h⟩ := h
  obtain ⟨P, O, x, r, C, F, e, hP, hO, hx, hr, hC, hF⟩ := isNum_inv h
  have hlen : P.length + (O.length + ((r.length + 1) + (C.length + F.length))) = high - low := by
    have := congrArg List.length e
    rw [cutW_len h3] at this
    simp only [List.length_append, List.length_cons] at this
    one_sign
  have lP : P.length ≤ 1 := by rcases hP with rfl | ⟨_, rfl, _⟩ <;> simp
  have lO : O.length ≤ 1 := by rcases hO with rfl | ⟨_, rfl, _⟩ <;> simp
  have lC : C.length ≤ 1 := by rcases hC with rfl | ⟨_, rfl, _⟩ <;> simp
  have lF : F.length ≤ 1 := by rcases hF with rfl | ⟨_, rfl, _⟩ <;> simp
  have at_ : ∀ k, k < high - low → sw ws (low + k) = sw (P ++ (O ++ ((x :: r) ++ (C ++ F)))) k := fun k hk => by rw [← e, sw_cut hk]
  -- the parts by their places
  have aP : ∀ k, k < P.length → inl (sw ws (low + k)) AFFIX = true := fun k hk => by
    rw [at_ k (by one_sign), sw_app, if_pos hk]
    rcases hP with rfl | ⟨p, rfl, hp⟩
    · cases hk
    · have : k = 0 := by simp at hk; exact hk
      subst this; exact hp
  have aO : ∀ k, P.length ≤ k → k < P.length + O.length → inl (sw ws (low + k)) ["OP", "HY"] = true := fun k k1 k2 => by
    rw [at_ k (by one_sign), sw_app, if_neg (by one_sign), sw_app, if_pos (by one_sign)]
    rcases hO with rfl | ⟨p, rfl, hp⟩
    · simp at k2; one_sign
    · have : k - P.length = 0 := by simp at k2; one_sign
      rw [this]; exact hp
  have aX : is (sw ws (low + (P.length + O.length))) "NU" = true := by
    rw [at_ _ (by one_sign), sw_app, if_neg (by one_sign), sw_app, if_neg (by one_sign), sw_app, if_pos (by rw [show P.length + O.length - P.length - O.length = 0 by one_sign]; simp), show P.length + O.length - P.length - O.length = 0 by one_sign]
    exact hx
  have aR : ∀ k, P.length + O.length ≤ k → k < P.length + O.length + (r.length + 1) → inl (sw ws (low + k)) INNER = true := fun k k1 k2 => by
    by_cases z : k = P.length + O.length
    · subst z; exact nu_inner aX
    · rw [at_ _ (by one_sign), sw_app, if_neg (by one_sign), sw_app, if_neg (by one_sign), sw_app, if_pos (by simp; one_sign)]
      have hm : sw (x :: r) (k - P.length - O.length) ∈ r := by
        obtain ⟨t, ht⟩ : ∃ t, k - P.length - O.length = t + 1 := ⟨k - P.length - O.length - 1, by one_sign⟩
        rw [ht]
        unfold sw
        rw [List.getD_cons_succ, List.getD_eq_getElem?_getD, List.getElem?_eq_getElem (by one_sign)]
        exact List.getElem_mem _
      exact hr _ hm
  have aC : ∀ k, P.length + O.length + (r.length + 1) ≤ k → k < P.length + O.length + (r.length + 1) + C.length → inl (sw ws (low + k)) ["CL", "CP"] = true := fun k k1 k2 => by
    rw [at_ _ (by one_sign), sw_app, if_neg (by one_sign), sw_app, if_neg (by one_sign), sw_app, if_neg (by simp; one_sign), sw_app, if_pos (by simp; one_sign)]
    rcases hC with rfl | ⟨p, rfl, hp⟩
    · simp at k2; one_sign
    · have : k - P.length - O.length - (x :: r).length = 0 := by simp at k2 ⊢; one_sign
      rw [this]; exact hp
  have aF : ∀ k, P.length + O.length + (r.length + 1) + C.length ≤ k → k < high - low → inl (sw ws (low + k)) AFFIX = true := fun k k1 k2 => by
    rw [at_ _ (by one_sign), sw_app, if_neg (by one_sign), sw_app, if_neg (by one_sign), sw_app, if_neg (by simp; one_sign), sw_app, if_neg (by simp; one_sign)]
    rcases hF with rfl | ⟨p, rfl, hp⟩
    · simp at hlen; one_sign
    · have : k - P.length - O.length - (x :: r).length - C.length = 0 := by simp at hlen ⊢; one_sign
      rw [this]; exact hp
  obtain ⟨t, rfl⟩ : ∃ t, i = low + t := ⟨i - low, by one_sign⟩
  have run : ∀ {k}, P.length + O.length < k → k ≤ P.length + O.length + (r.length + 1) → numAt ws (low + k) = true := fun {k} k1 k2 =>
    numAt_of (j := low + (P.length + O.length)) (by one_sign) aX fun u u1 u2 => by
      obtain ⟨v, rfl⟩ : ∃ v, u = low + v := ⟨u - low, by one_sign⟩
      exact aR v (by one_sign) (by one_sign)
  have em : low + t - 1 = low + (t - 1) := by one_sign
  unfold exprB
  rw [em]
  by_cases c1 : t < P.length + O.length
  · -- behind PR, PO comes OP, HY
    have hb := aO t (by one_sign) c1
    have ha := aP (t - 1) (by one_sign)
    have hy : is (sw ws (low + t + 1)) "NU" = true := by
      have : low + t + 1 = low + (P.length + O.length) := by one_sign
      rw [this]; exact aX
    rw [ha, hb, hy]; simp
  · by_cases c2 : t = P.length + O.length
    · subst c2
      rw [aX]
      by_cases c3 : O.length = 1
      · rw [aO (P.length + O.length - 1) (by one_sign) (by one_sign)]; simp
      · rw [aP (P.length + O.length - 1) (by one_sign)]; simp
    · by_cases c3 : t < P.length + O.length + (r.length + 1)
      · rw [aR t (by one_sign) c3, run (k := t) (by one_sign) (by one_sign)]; simp
      · by_cases c4 : t < P.length + O.length + (r.length + 1) + C.length
        · rw [aC t (by one_sign) c4, run (k := t) (by one_sign) (by one_sign)]; simp
        · have hb := aF t (by one_sign) (by one_sign)
          rw [hb, inl_not hb (l' := INNER) (by decide), inl_not hb (l' := ["CL", "CP"]) (by decide)]
          by_cases c5 : C.length = 1
          · rw [aC (t - 1) (by one_sign) (by one_sign)]; simp [run (k := t - 1) (by one_sign) (by one_sign)]
          · have hi := aR (t - 1) (by one_sign) (by one_sign)
            rw [inl_not hi (l' := ["CL", "CP"]) (by decide)]; simp [run (k := t) (by one_sign) (by one_sign)]

-- rows 01, 03: the reasons
section
variable {w : World} {mg mb : Str → Option Value} {lo : Lo} {n : Nat} {H : Hp} {lb gc ea : Int → Str}

theorem reasons_ok {x dx hw dh da t : Addr} {codes : List Int} {S N : Str} {kp : Bool} {Q : D → Hp → Prop} (hB : BrkAt H x dx da hw dh S N kp) (ht : H t = some (.lst (codes.map .int))) (hz : codes.length ≤ 100) (h1 : 1 ≤ codes.length)
    (hD : ∀ H', Sub H H' → DatOk (mkG w mg mb lo) (n + 3) H' da lb gc ea) (hS : is S "strict" = true)
    (hc : ∀ c ∈ codes, 0 ≤ c ∧ okV (lb c) = true)
    (q : ∀ a H', Own H H' [(a, .lst ((verL (mkV lb codes S N kp) gc ea (codes.length - 1)).map sndD))] → Q (.ref a) H') : CalC (mkG w mg mb lo) (n + 10) H (.ref 368) [.ref x, .ref t] Q := by
  refine CalC.fn (es := [.ref x, .ref t]) [Str.ofString "self", Str.ofString "text"] (by ktr_unf) (by ktr_unf) (fun B T s vs k i => BindsTo.two (fun a b => rfl) i) (fun L hL => ?_)
  refine Ex.ret (Ev.comp (cl := []) (by one_sign) ?_ ?hcl)
  case hcl => rfl
  refine Ev.locs (Ev.callG (by ktr_unf) (by ktr_unf) (EvL.cons (EvP.to (EvP.loc rfl) (EvL.cons (EvP.to (EvP.attr (EvP.loc rfl) (gp_LineBreaks_data hB.x hB.dx rfl)) (EvL.cons (EvP.to (EvP.attr (EvP.loc rfl) (gp_LineBreaks_how hB.x hB.dx rfl)) (EvL.nil ?_))))))))
  refine CalC.cal (line_verdicts_ok ht hz h1 hD hB.hw hB.dh hS hc fun a L1 H1 o hL1 => ?_)
  have hlen := verL_len (mkV lb codes S N kp) gc ea (codes.length - 1)
  rw [mkV_len] at hlen
  refine ⟨_, _, _, _, Itr.lst (o.get (.head _)), rfl, hL1, by rw [hlen, sizeLine_eq]; one_sign, fun C hC hCL => ?_⟩
  refine Lc.inv (fun i m H' acc => Own H H' ((a, .lst (verL (mkV lb codes S N kp) gc ea (codes.length - 1))) :: L1) ∧ acc = ((verL (mkV lb codes S N kp) gc ea (codes.length - 1)).take i).map sndD) ?_ ?_ ⟨o, by simp⟩
  · rintro i d m H' acc hi ⟨o', rfl⟩
    obtain ⟨x1, x2, rfl⟩ := verL_pair (List.mem_of_getElem? hi)
    refine ⟨o'.get (.head _), Asg.tup (AsgL.cons (Asg.name (AsgL.cons (Asg.name (AsgL.nil ?_)))))⟩
    refine ⟨fun _ => EvP.to (EvP.loc lset_self) ⟨o', ?_⟩, fun h => by cases h⟩
    rw [List.take_succ, hi, List.map_append]; rfl
  · rintro m H' acc ⟨o', rfl⟩
    refine ⟨o'.get (.head _), fun b hb _ => q b _ ?_⟩
    rw [List.take_length]
    exact (o'.alloc hb).weak (by simp)
end

-- row 01: the second sort, its verdicts
noncomputable def lbN : Int → Str := lsW (dbK (opsOf nums) 13) (Str.ofString "lb") (Str.ofString "XX")
noncomputable def gcN : Int → Str := lsW (dbK (opsOf nums) 13) (Str.ofString "gc") (Str.ofString "Cn")
noncomputable def eaN : Int → Str := lsW (dbK (opsOf nums) 13) (Str.ofString "ea") (Str.ofString "N")
noncomputable def nw (p : Nat) : Str := Str.ofString (nums.getD p "")
noncomputable def cdN (p : Nat) : Int := 65 + ((if p < 10 then p else 0 : Nat) : Int)
theorem tabN : ∀ k : Fin 12, lbN (cdN k.val) = nw k.val ∧ eaN (cdN k.val) = Str.ofString "N" ∧ okV (nw k.val) = true ∧ is (nw k.val) "SP" = false ∧ is (nw k.val) "QU" = false ∧ is (nw k.val) "HL" = false ∧ (cdN k.val == 9676) = false ∧ inl (nw k.val) ["AK", "AS"] = false ∧ inl (nw k.val) ["AK"] = false ∧ is (nw k.val) "AP" = false ∧ is (nw k.val) "VI" = false := by decide +kernel
noncomputable def wsN (ps : List Nat) : List Str := ps.map nw
noncomputable def csN (ps : List Nat) : List Int := ps.map cdN
noncomputable def xs : Str := Str.ofString "expression"
noncomputable def chkN (a b : Nat) : Bool := deq (fstD (vG xs (nw a) (nw b) .none (no "LB25"))) (ss "no") && !deq (sndD (vG xs (nw a) (nw b) .none .none)) (ss "LB25")
theorem chkN_ok : ((List.range 12).all fun a => (List.range 12).all fun b => chkN a b) = true := by decide +kernel
section
variable {ps : List Nat}
theorem sw_wsN {k : Nat} (hk : k < ps.length) : sw (wsN ps) k = nw (ps.getD k 0) := by
  unfold sw wsN
  rw [List.getD_eq_getElem?_getD, List.getElem?_map, List.getElem?_eq_getElem hk, List.getD_eq_getElem?_getD, List.getElem?_eq_getElem hk]; rfl
theorem cs_csN {k : Nat} (hk : k < ps.length) : (csN ps).getD k 0 = cdN (ps.getD k 0) := by
  unfold csN
  rw [List.getD_eq_getElem?_getD, List.getElem?_map, List.getElem?_eq_getElem hk, List.getD_eq_getElem?_getD, List.getElem?_eq_getElem hk]; rfl
theorem getD_lt12 (h : ∀ p ∈ ps, p < 12) {k : Nat} (hk : k < ps.length) : ps.getD k 0 < 12 := by
  rw [List.getD_eq_getElem?_getD, List.getElem?_eq_getElem hk]; exact h _ (List.getElem_mem _)
theorem txtN (h : ∀ p ∈ ps, p < 12) : Txt lbN eaN (csN ps) (wsN ps) := by
  have l : (wsN ps).length = ps.length := by simp [wsN]
  refine ⟨by simp [csN, wsN], fun k hk => ?_, fun k hk => ?_, fun k hk => ?_⟩ <;> rw [l] at hk <;> have t := tabN ⟨ps.getD k 0, getD_lt12 h hk⟩
  · rw [cs_csN hk, sw_wsN hk]; exact t.1
  · rw [cs_csN hk]; exact t.2.1
  · rw [sw_wsN hk]; exact ⟨t.2.2.2.1, t.2.2.2.2.1, t.2.2.2.2.2.1⟩
noncomputable def VN (ps : List Nat) : Vw := mkV lbN (csN ps) (Str.ofString "strict") xs false
theorem num_st (h : ∀ p ∈ ps, p < 12) : ∀ k : Nat, k ≤ ps.length → (stV lbN (csN ps) k).num = numAt (wsN ps) k
  | 0, _ => rfl
  | k + 1, hk => by
    have l : (wsN ps).length = ps.length := by simp [wsN]
    show (is (lbN ((csN ps).getD k 0)) "NU" || ((stV lbN (csN ps) k).num && inl (lbN ((csN ps).getD k 0)) INNER)) = _
    rw [(txtN h).lb k (by one_sign), num_st h k (by one_sign)]; rfl
theorem isNum_at (h : ∀ p ∈ ps, p < 12) {p : Int} (h1 : p < ps.length) : (VN ps).isNum p = numAt (wsN ps) (p + 1).toNat := by
  unfold Vw.isNum
  by_cases q : 0 ≤ p
  · have hk : p.toNat < (csN ps).length := by simp [csN]; one_sign
    rw [decide_eq_true q, Bool.true_and]
    unfold Vw.Nm VN mkV
    simp only [List.getElem?_map]
    rw [List.getElem?_eq_getElem (by simpa using hk)]
    simp only [List.getElem_range, Option.map_some, Option.getD_some]
    rw [num_st h _ (by one_sign), show (p + 1).toNat = p.toNat + 1 by one_sign]
  · rw [decide_eq_false q, show (p + 1).toNat = 0 by one_sign]; rfl
theorem rExprN (h : ∀ p ∈ ps, p < 12) {i : Nat} (h0 : 1 ≤ i) (h1 : i < ps.length) : rExpr (VN ps) i = bif exprB (wsN ps) i then no "LB25" else .none := by
  have l : (wsN ps).length = ps.length := by simp [wsN]
  have T := txtN h
  have ey : (VN ps).W ((i : Int) + 1) = sw (wsN ps) (i + 1) := by
    by_cases q : i + 1 < ps.length
    · unfold VN; rw [T.W (by one_sign) (by one_sign), show ((i : Int) + 1).toNat = i + 1 by one_sign]
    · unfold VN; rw [T.out (by one_sign), sw_out (by one_sign)]
  have ea : (VN ps).W ((i : Int) - 1) = sw (wsN ps) (i - 1) := by unfold VN; rw [T.W (by one_sign) (by one_sign), show ((i : Int) - 1).toNat = i - 1 by one_sign]
  have eb : (VN ps).W (i : Int) = sw (wsN ps) i := by unfold VN; rw [T.W (by one_sign) (by one_sign), Int.toNat_natCast]
  have n1 : (VN ps).isNum ((i : Int) - 1) = numAt (wsN ps) i := by rw [isNum_at h (by one_sign), show ((i : Int) - 1 + 1).toNat = i by one_sign]
  have n2 : (VN ps).isNum ((i : Int) - 2) = numAt (wsN ps) (i - 1) := by rw [isNum_at h (by one_sign), show ((i : Int) - 2 + 1).toNat = i - 1 by one_sign]
  have n3 : (VN ps).isNum (bif inl (sw (wsN ps) (i - 1)) ["CL", "CP"] then (i : Int) - 2 else (i : Int) - 1) = numAt (wsN ps) (bif inl (sw (wsN ps) (i - 1)) ["CL", "CP"] then i - 1 else i) := by
    cases inl (sw (wsN ps) (i - 1)) ["CL", "CP"] <;> assumption
  unfold rExpr exprB
  simp only
  rw [ey, ea, eb, n1, n3]
  cases inl (sw (wsN ps) (i - 1)) AFFIX && (is (sw (wsN ps) i) "NU" || inl (sw (wsN ps) i) ["OP", "HY"] && is (sw (wsN ps) (i + 1)) "NU") || inl (sw (wsN ps) (i - 1)) ["OP", "HY"] && is (sw (wsN ps) i) "NU" with
  | true => rfl
  | false =>
    cases inl (sw (wsN ps) i) INNER || inl (sw (wsN ps) i) ["CL", "CP"] with
    | true => cases numAt (wsN ps) i <;> rfl
    | false =>
      cases inl (sw (wsN ps) i) AFFIX with
      | true => cases numAt (wsN ps) (bif inl (sw (wsN ps) (i - 1)) ["CL", "CP"] then i - 1 else i) <;> rfl
      | false => rfl
theorem verdictN (h : ∀ p ∈ ps, p < 12) {i : Nat} (h0 : 1 ≤ i) (h1 : i < ps.length) : verdict (VN ps) gcN eaN i = vG xs (sw (wsN ps) (i - 1)) (sw (wsN ps) i) .none (bif exprB (wsN ps) i then no "LB25" else .none) := by
  have l : (wsN ps).length = ps.length := by simp [wsN]
  have T := txtN h
  have eN : rNumbers (VN ps) i = bif exprB (wsN ps) i then no "LB25" else .none := by
    unfold rNumbers
    show (bif is xs "expression" then _ else _) = _
    rw [show is xs "expression" = true by decide]
    exact rExprN h h0 h1
  have ak : ∀ {k : Nat}, k < ps.length → (VN ps).ak (k : Int) ["AK", "AS"] = false ∧ (VN ps).ak (k : Int) ["AK"] = false := fun {k} hk => by
    have t := tabN ⟨ps.getD k 0, getD_lt12 h hk⟩
    unfold VN
    rw [T.ak (by one_sign) (by one_sign), T.ak (by one_sign) (by one_sign), Int.toNat_natCast, cs_csN hk, sw_wsN hk, t.2.2.2.2.2.2.1, t.2.2.2.2.2.2.2.1, t.2.2.2.2.2.2.2.2.1]
    exact ⟨rfl, rfl⟩
  have ea : (VN ps).W ((i : Int) - 1) = sw (wsN ps) (i - 1) := by unfold VN; rw [T.W (by one_sign) (by one_sign), show ((i : Int) - 1).toNat = i - 1 by one_sign]
  have ta := tabN ⟨ps.getD (i - 1) 0, getD_lt12 h (show i - 1 < ps.length by one_sign)⟩
  have eA : rAksaras (VN ps) i = .none := by
    unfold rAksaras
    simp only
    rw [ea, (ak h1).1, (ak h1).2, show (i : Int) - 1 = ((i - 1 : Nat) : Int) by one_sign, (ak (k := i - 1) (by one_sign)).1, sw_wsN (by one_sign), ta.2.2.2.2.2.2.2.2.2.1, ta.2.2.2.2.2.2.2.2.2.2]
    rfl
  have := verdict_vG (gc := gcN) (N := xs) T h0 (by one_sign)
  rw [← eN, ← eA]
  exact this
theorem toldN (h : ∀ p ∈ ps, p < 12) {i : Nat} (h0 : 1 ≤ i) (h1 : i < ps.length) (he : exprB (wsN ps) i = true) : fstD (verdict (VN ps) gcN eaN i) = ss "no" := by
  rw [verdictN h h0 h1, he, sw_wsN (by one_sign), sw_wsN h1]
  have c := allN (allN chkN_ok (getD_lt12 h (show i - 1 < ps.length by one_sign))) (getD_lt12 h h1)
  unfold chkN at c
  exact str_eq (Bool.and_eq_true_iff.mp c).1
theorem nameN (h : ∀ p ∈ ps, p < 12) {i : Nat} (h0 : 1 ≤ i) (h1 : i < ps.length) (he : sndD (verdict (VN ps) gcN eaN i) = ss "LB25") : exprB (wsN ps) i = true := by
  cases q : exprB (wsN ps) i with
  | true => rfl
  | false =>
    rw [verdictN h h0 h1, q, sw_wsN (by one_sign), sw_wsN h1] at he
    have c := allN (allN chkN_ok (getD_lt12 h (show i - 1 < ps.length by one_sign))) (getD_lt12 h h1)
    unfold chkN at c
    have := (Bool.and_eq_true_iff.mp c).2
    have he' : sndD (vG xs (nw (ps.getD (i - 1) 0)) (nw (ps.getD i 0)) .none .none) = ss "LB25" := he
    rw [he'] at this
    exact absurd this (by decide)
noncomputable def oppsN (ps : List Nat) : List D := (verL (VN ps) gcN eaN ((csN ps).length - 1)).map fstD
noncomputable def namesN (ps : List Nat) : List D := (verL (VN ps) gcN eaN ((csN ps).length - 1)).map sndD
theorem verN_at {i : Nat} (h : i ≤ ps.length) : (verL (VN ps) gcN eaN ((csN ps).length - 1))[i]? = some (if i = 0 then no "LB2" else if i = ps.length then must "LB3" else verdict (VN ps) gcN eaN i) := by
  have lc : (csN ps).length = ps.length := by simp [csN]
  have lv : (VN ps).us.length = ps.length := by unfold VN; rw [mkV_len, lc]
  unfold verL
  rw [List.getElem?_map, List.getElem?_range (by rw [lv]; one_sign)]
  simp only [Option.map_some, lv, lc]
  by_cases a : i = 0
  · simp [a]
  · by_cases b : i = ps.length
    · simp [a, b]
    · simp [a, b, show i ≤ ps.length - 1 by one_sign]
theorem held_told (h : ∀ p ∈ ps, p < 12) {i : Nat} (hh : heldP (wsN ps) i) : (oppsN ps)[i]? = some (ss "no") := by
  have l : (wsN ps).length = ps.length := by simp [wsN]
  obtain ⟨low, high, a, b, c, _⟩ := id hh
  unfold oppsN
  rw [List.getElem?_map, verN_at (by one_sign), if_neg (by one_sign), if_neg (by one_sign)]
  exact congrArg some (toldN h (by one_sign) (by one_sign) (of_held hh))
theorem named_held (h : ∀ p ∈ ps, p < 12) {i : Nat} (hi : i ≤ ps.length) (he : (namesN ps)[i]? = some (ss "LB25")) : heldP (wsN ps) i := by
  have l : (wsN ps).length = ps.length := by simp [wsN]
  unfold namesN at he
  rw [List.getElem?_map, verN_at hi] at he
  by_cases a : i = 0
  · subst a
    rw [if_pos rfl] at he
    have e : Str.ofString "LB2" = Str.ofString "LB25" := D.str.inj (Option.some.inj he)
    exact absurd e (by decide)
  · rw [if_neg a] at he
    by_cases b : i = ps.length
    · rw [if_pos b] at he
      have e : Str.ofString "LB3" = Str.ofString "LB25" := D.str.inj (Option.some.inj he)
      exact absurd e (by decide)
    · rw [if_neg b] at he
      exact held_of (by one_sign) (by one_sign) (nameN h (by one_sign) (by one_sign) (Option.some.inj he))
end

-- row 01: the second sort
theorem nums_at {p : Nat} (h : p < 12) : (nums.map ss)[p]? = some (.str (nw p)) ∧ (nums.map ss)[if p < 10 then p else 0]? = some (.str (nw p)) := by
  have : ∀ p : Fin 12, (nums.map Str.ofString)[p.val]? = some (nw p.val) ∧ (nums.map Str.ofString)[if p.val < 10 then p.val else 0]? = some (nw p.val) := by decide +kernel
  have key : ∀ j : Nat, (nums.map Str.ofString)[j]? = some (nw p) → (nums.map ss)[j]? = some (.str (nw p)) := fun j this => by
    rw [List.getElem?_map] at this ⊢
    cases q : nums[j]? with
    | none => rw [q] at this; cases this
    | some x => rw [q] at this; simp only [Option.map_some, Option.some.injEq] at this ⊢; exact congrArg D.str this
  exact ⟨key _ (this ⟨p, h⟩).1, key _ (this ⟨p, h⟩).2⟩
theorem nw_dist : ∀ p : Fin 12, ∀ i : Fin 12, i.val < (if p.val < 10 then p.val else 0) → (nw i.val == nw p.val) = false := by decide +kernel
noncomputable def heldS (ws : List Str) (low high k : Nat) : Prop := ∃ a b, (a < low ∨ (a = low ∧ b < high)) ∧ a < k ∧ k < b ∧ b ≤ ws.length ∧ isNumB (cutW ws a b) = true
section
variable {w : World} {mg mb : Str → Option Value} {lo : Lo} {n : Nat} {H : Hp}

theorem numbers_ok {H0 : Hp} {dk c : Addr} {Q : D → Hp → Prop} (hd : DeckOwn H0 H dk c []) (q : ∀ H', Q (.bool true) H') : CalC (mkG w mg mb lo) (n + 20) H (.ref 546) [.ref dk] Q := by
  refine CalC.fnC [Str.ofString "deck"] (by ktr_unf) (by ktr_unf) (fun vs hv => ?_) (fun L hL => ?_) (by decide) ?hlk
  case hlk =>
    intro L p hp
    have e : p = (Str.ofString "held", L + 1 + 1 + 1) ∨ p = (Str.ofString "names", L + 1 + 1) ∨ p = (Str.ofString "told", L + 1) := by simpa [cellsFrom] using hp
    rcases e with e | e | e <;> (subst e; exact ⟨rfl, rfl⟩)
  · match vs, hv with
    | [a], _ => rfl
  show Ex _ _ _ _ (((H.set (L + 1) (.cel none)).set (L + 1 + 1) (.cel none)).set (L + 1 + 1 + 1) (.cel none)) _ _
  have hd0 : DeckOwn H0 (((H.set (L + 1) (.cel none)).set (L + 1 + 1) (.cel none)).set (L + 1 + 1 + 1) (.cel none)) dk c [(L + 1 + 1 + 1, .cel none), (L + 1 + 1, .cel none), (L + 1, .cel none)] := by
    refine ((hd.alloc (hL _ ?_)).alloc ((Hp.set_ne _ _ ?_).trans (hL _ ?_))).alloc ((Hp.set_ne _ _ ?_).trans ((Hp.set_ne _ _ ?_).trans (hL _ ?_)))
    · exact Nat.le_succ _
    · exact Nat.succ_ne_self _
    · exact Nat.le_succ_of_le (Nat.le_succ _)
    · exact Nat.succ_ne_self _
    · exact Nat.ne_of_gt (Nat.lt_succ_of_lt (Nat.lt_succ_self _))
    · exact Nat.le_succ_of_le (Nat.le_succ_of_le (Nat.le_succ _))
  revert hd0
  generalize ((H.set (L + 1) (X.cel none)).set (L + 1 + 1) (X.cel none)).set (L + 1 + 1 + 1) (X.cel none) = H1
  intro hd0
  clear hd
  -- data, some
  refine Ex.asgS (names := [Str.ofString "data", Str.ofString "some"]) (Ev.tup (EvL.cons ?_))
  refine Ev.callG (by ktr_unf) (by ktr_unf) (EvL.cons (EvP.to (d := .tup (nums.map ss)) ?g0 (EvL.nil (CalC.cal (CalC.le (law_data_ok (n := n) (sorts := nums) (by decide) opsN_ok fun da H2 hdb => ?_) (by one_sign))))))
  case g0 =>
    refine' EvP.conv ?g1 ?g2
    case g1 => exact EvP.glob (by ktr_unf) (IsTop.tup (by ktr_unf) rfl)
    case g2 => rfl
  refine EvL.cons (Ev.lst (EvL.nil ⟨Nat.le_of_ble_eq_true rfl, fun sm hsm _ => EvL.nil ⟨Nat.le_of_ble_eq_true rfl, _, rfl, rfl, rfl, rfl, rfl, rfl, ?_⟩⟩))
  obtain ⟨⟨dx, a1, a2, a3, a4, dl, es, hdl, hes, hnd, o5⟩, hok⟩ := hdb
  have hd1 : DeckOwn H0 (H2.set sm (.lst ((wsN []).map .str))) dk c ((sm, .lst ((wsN []).map .str)) :: (L + 1 + 1 + 1, .cel none) :: (L + 1 + 1, .cel none) :: (L + 1, .cel none) :: dbL da dx a1 a2 a3 a4 dl es) := by
    obtain ⟨cs, mx, o, l⟩ := hd0.trans o5
    exact DeckOwn.alloc ⟨cs, mx, o.perm (.cons _ (.cons _ List.perm_append_comm)), l⟩ hsm
  clear hd0 o5
  show Ex _ _ _ _ (H2.set sm (.lst ((wsN []).map .str))) _ _
  revert hd1
  generalize H2.set sm (X.lst ((wsN []).map .str)) = H3
  intro hd1
  clear hsm H1 H2
  -- the signs
  refine Ex.for' (by one_sign) (Ev.locs (Ev.callTy (by ktr_unf) rfl (EvL.cons (Ev.bin (EvP.cint.to ?_)))))
  refine Ev.callG (by ktr_unf) (by ktr_unf) (EvL.cons (EvP.to (EvP.loc rfl) (EvL.cons (EvP.cint.to (EvL.nil ?_)))))
  refine CalC.cal (CalC.le (law_draw_ok (n := n) hd1 (by decide) fun v H7 v0 v1 hd2 => Bin.addI (EvL.nil (Cal.rng1 fun hL7 => ?_))) (by one_sign))
  refine ⟨isNm, H7, rngL 0 (1 + v), _, Itr.rng (by one_sign) (by one_sign) (by one_sign) (by one_sign), rfl, hL7, ?_⟩
  refine Lp.inv (fun i m H' => (m (Str.ofString "data") = some (.ref da) ∧ m (Str.ofString "some") = some (.ref sm) ∧ m (Str.ofString "deck") = some (.ref dk)) ∧ ∃ ps : List Nat, DeckOwn H0 H' dk c ((sm, .lst ((wsN ps).map .str)) :: (L + 1 + 1 + 1, .cel none) :: (L + 1 + 1, .cel none) :: (L + 1, .cel none) :: dbL da dx a1 a2 a3 a4 dl es) ∧ ps.length = i ∧ ∀ p ∈ ps, p < 12) ?_ ?_ ⟨⟨rfl, rfl, rfl⟩, [], hd2, rfl, fun p hp => by cases hp⟩
  · clear hd1 hd2 hL7
    rintro i d m H' hi ⟨⟨m1, m2, m3⟩, ps, hd', rfl, hp⟩
    obtain ⟨rfl, hl⟩ := rngL_inv hi
    have lw : ((wsN ps).map D.str).length = ps.length := by simp [wsN]
    refine ⟨trivial, Asg.name ?_⟩
    refine Ex.append (EvP.loc (lset_get (by decide) m2)) (hd'.get (.head _)) ?_
    refine Ev.item (EvP.to (d := .tup (nums.map ss)) ?g0 (Ev.callG (by ktr_unf) (by ktr_unf) (EvL.cons (EvP.to (EvP.loc (lset_get (by decide) m3)) (EvL.cons (EvP.cint.to (EvL.nil ?_)))))))
    case g0 =>
      refine' EvP.conv ?g1 ?g2
      case g1 => exact EvP.glob (by ktr_unf) (IsTop.tup (by ktr_unf) rfl)
      case g2 => rfl
    refine CalC.cal (CalC.le (law_draw_ok (n := n) hd' (by decide) fun u H8 u0 u1 hd8 => Item.tup (j := u.toNat) (d := .str (nw u.toNat)) (seqIndex_pos u0 u1) (nums_at (by one_sign)).1 ⟨_, hd8.get (.head _), by rw [lw, sizeLine_eq]; one_sign, Ex.nil ⟨⟨lset_get (by decide) m1, lset_get (by decide) m2, lset_get (by decide) m3⟩, ps ++ [u.toNat], ?_, by simp, fun p hpp => ?_⟩⟩ (by one_sign) (by one_sign)) (by one_sign))
    · have := hd8.upd (y := .lst ((wsN ps).map D.str ++ [.str (nw u.toNat)])) 0 rfl
      rw [show (wsN (ps ++ [u.toNat])).map D.str = (wsN ps).map D.str ++ [.str (nw u.toNat)] by simp [wsN]]
      exact this
    · rcases List.mem_append.mp hpp with h | h
      · exact hp p h
      · rw [List.mem_singleton.mp h]; one_sign
  · clear hd1 hd2 hL7 H7 H3
    rintro m H9 ⟨⟨m1, m2, m3⟩, ps, hd9, hpl, hp⟩
    rw [rngL_len] at hpl
    have ha : 1 ≤ ps.length := by one_sign
    have hb : ps.length ≤ 7 := by one_sign
    clear hpl v0 v1
    have lw : (wsN ps).length = ps.length := by simp [wsN]
    have ltx : ((wsN ps).map D.str).length = ps.length := by simp [wsN]
    refine ⟨trivial, ?_⟩
    -- text
    refine Ex.fresh fun hL9 => ?_
    refine' Ex.asgC (cl := []) ?f1 ?f2 ?f3
    case f1 => one_sign
    case f3 => rfl
    case f2 =>
    refine EvP.to (EvP.loc m2) ⟨_, _, _, _, Itr.lst (hd9.get (.head _)), rfl, hL9, by rw [ltx, sizeLine_eq]; one_sign, fun C' hC' hCL' => ?_⟩
    refine Lc.inv (fun i m' H' acc => H' = H9 ∧ acc = ((csN ps).take i).map .int) ?_ ?_ ⟨rfl, rfl⟩
    · rintro i d m' H' acc hi' ⟨rfl, rfl⟩
      obtain ⟨x, hx, rfl⟩ := map_inv hi'
      unfold wsN at hx
      rw [List.getElem?_map] at hx
      obtain ⟨p, hp1, rfl⟩ := Option.map_eq_some_iff.mp hx
      have hp12 := hp p (List.mem_of_getElem? hp1)
      have ecs : ((csN ps).take (i + 1)).map D.int = ((csN ps).take i).map D.int ++ [.int (cdN p)] := by
        rw [List.take_add_one, List.map_append]
        have : (csN ps)[i]? = some (cdN p) := by unfold csN; rw [List.getElem?_map, hp1]; rfl
        rw [this]; rfl
      refine ⟨hd9.get (.head _), Asg.name ⟨fun _ => ?_, fun h => by cases h⟩⟩
      refine Ev.bin (EvP.cint.to (Ev.methB (T := "tuple") (id := "tuple.index") PySem.F.plainAttrs_tuple PySem.F.slot_tuple_index PySem.F.type_tuple_index ?_))
      refine EvP.to (EvP.glob (by ktr_unf) IsTop.ref) ⟨_, rfl, top_there (by ktr_unf) rfl rfl, EvL.cons (EvP.to (EvP.loc lset_self) (EvL.nil (Cal.tidx (j := if p < 10 then p else 0) (by ktr_unf) rfl ?t1 ?t2 ?t3 (Bin.addI ⟨rfl, ?t4⟩))))⟩
      case t1 => exact (nums_at hp12).2
      case t2 =>
        intro i' hi'
        have : i' < 12 := by split at hi' <;> one_sign
        exact ⟨nw i', (nums_at this).1, nw_dist ⟨p, hp12⟩ ⟨i', this⟩ hi'⟩
      case t3 =>
        intro d hd
        obtain ⟨y, _, rfl⟩ := List.mem_map.mp (show d ∈ nums.map ss from hd)
        exact ⟨_, rfl⟩
      case t4 => rw [ecs]; rfl
    · rintro m' H' acc ⟨rfl, rfl⟩
      refine ⟨hd9.get (.head _), fun tx htx _ => Asg.name ?_⟩
      have lcs : (csN ps).length = ps.length := by simp [csN]
      rw [ltx, List.take_of_length_le (by one_sign)]
      have hd10 := hd9.alloc (x := .lst ((csN ps).map .int)) htx
      revert hd10
      generalize H'.set tx _ = H10
      intro hd10
      clear htx hd9 hL9
      -- breaks
      refine Ex.fresh fun hL10 => ?_
      refine Ex.asg (Ev.locs (Ev.callG (by ktr_unf) (by ktr_unf) (EvL.cons (EvP.to (EvP.loc (lset_get (by decide) m1)) (EvL.cons (Ev.callG (by ktr_unf) (by ktr_unf) (EvL.cons (EvP.cstr.to (EvL.cons (EvP.cbool.to (EvL.cons (EvP.cstr.to (EvL.nil ?_)))))))))))))
      refine CalC.cal (CalC.le (LineHow3_ok (n := n) fun hw dh H11 oh => EvL.nil (CalC.cal (CalC.le (LineBreaks2_ok (n := n) fun x dxb H12 ob hL12 => Asg.name ?_) (by one_sign)))) (by one_sign))
      have hd12 := (hd10.trans oh).trans ob
      clear hd10
      have hDB : DB H0 H12 da (dbK (opsOf nums) 13) := ⟨⟨dx, a1, a2, a3, a4, dl, es, hdl, hes, hnd, hd12.own.weak (.cons _ (.cons _ (.cons _ (.cons _ (.cons _ (.cons _ (.cons _ (.cons _ (.cons _ (.refl _))))))))))⟩, hok⟩
      have hcs : ∀ z ∈ csN ps, 0 ≤ z ∧ okV (lbN z) = true := fun z hz => by
        obtain ⟨p, hp2, rfl⟩ := List.mem_map.mp hz
        have t := tabN ⟨p, hp p hp2⟩
        refine ⟨by unfold cdN; one_sign, ?_⟩
        rw [t.1]; exact t.2.2.1
      have pbx : BrkAt H12 x dxb da hw dh (Str.ofString "strict") xs false := ⟨hd12.get (.head _), hd12.get (.tail _ (.head _)), hd12.get (.tail _ (.tail _ (.head _))), hd12.get (.tail _ (.tail _ (.tail _ (.head _))))⟩
      have ptx : H12 tx = some (.lst ((csN ps).map .int)) := hd12.get (.tail _ (.tail _ (.tail _ (.tail _ (.head _)))))
      -- told, names, held
      have mb1 : (lset (lset m (Str.ofString "text") (.ref tx)) (Str.ofString "breaks") (.ref x)) (Str.ofString "breaks") = some (.ref x) := lset_self
      have mb2 : (lset (lset m (Str.ofString "text") (.ref tx)) (Str.ofString "breaks") (.ref x)) (Str.ofString "text") = some (.ref tx) := lset_get (by decide) lset_self
      have mb3 : (lset (lset m (Str.ofString "text") (.ref tx)) (Str.ofString "breaks") (.ref x)) (Str.ofString "some") = some (.ref sm) := lset_get (by decide) (lset_get (by decide) m2)
      revert mb1 mb2 mb3
      generalize lset (lset m (Str.ofString "text") (.ref tx)) (Str.ofString "breaks") (.ref x) = m12
      intro mb1 mb2 mb3
      refine' Ex.asgT ?b1 ?b2 ?b3
      case b2 => rfl
      case b3 => rfl
      case b1 =>
      refine Ev.tup (EvL.cons (Ev.callTy (by ktr_unf) rfl (EvL.cons ?_)))
      refine Ev.meth (x := x) (C := 394) (dx := dxb) (f := 363) me_LineBreaks_opportunities.1 me_LineBreaks_opportunities.2.1 me_LineBreaks_opportunities.2.2.1 me_LineBreaks_opportunities.2.2.2 (EvP.to (EvP.loc mb1) ⟨rfl, pbx.x, pbx.dx, rfl, EvL.cons (EvP.to (EvP.loc mb2) (EvL.nil ?_))⟩)
      refine CalC.cal (CalC.le (n := n + 19) (opps_ok (n := n) (lb := lbN) (gc := gcN) (ea := eaN) pbx ptx (by one_sign) (by one_sign) (fun H'' s => DB.dat hDB s) (by decide) hcs fun op H13 o13 => ?_) (by one_sign))
      have pop : H13 op = some (.lst (oppsN ps)) := o13.get (.head _)
      have lo1 : (oppsN ps).length = ps.length + 1 := by unfold oppsN VN; rw [List.length_map, verL_len, mkV_len, lcs]
      have ln1 : (namesN ps).length = ps.length + 1 := by unfold namesN VN; rw [List.length_map, verL_len, mkV_len, lcs]
      refine EvL.nil (Cal.listL (LstAt.own pop) (by rw [lo1, sizeLine_eq]; one_sign) fun to hto => ?_)
      have hd14 := (hd12.trans o13).alloc (x := .lst (oppsN ps)) hto
      have s14 : Sub H12 (H13.set to (.lst (oppsN ps))) := o13.sub.trans (Sub.set hto)
      revert hd14 s14
      generalize H13.set to (X.lst (oppsN ps)) = H14
      intro hd14 s14
      clear pop o13 hto
      refine EvL.cons (Ev.callTy (by ktr_unf) rfl (EvL.cons ?_))
      refine Ev.meth (x := x) (C := 394) (dx := dxb) (f := 368) me_LineBreaks_reasons.1 me_LineBreaks_reasons.2.1 me_LineBreaks_reasons.2.2.1 me_LineBreaks_reasons.2.2.2 (EvP.to (EvP.loc mb1) ⟨rfl, s14 _ _ pbx.x, s14 _ _ pbx.dx, rfl, EvL.cons (EvP.to (EvP.loc mb2) (EvL.nil ?_))⟩)
      refine CalC.cal (CalC.le (n := n + 19) (reasons_ok (n := n) (lb := lbN) (gc := gcN) (ea := eaN) (pbx.sub s14) (s14 _ _ ptx) (by one_sign) (by one_sign) (fun H'' s => DB.dat hDB (s14.trans s)) (by decide) hcs fun rp H15 o15 => ?_) (by one_sign))
      have prp : H15 rp = some (.lst (namesN ps)) := o15.get (.head _)
      refine EvL.nil (Cal.listL (LstAt.own prp) (by rw [ln1, sizeLine_eq]; one_sign) fun nm hnm => ?_)
      have hd16 := (hd14.trans o15).alloc (x := .lst (namesN ps)) hnm
      revert hd16
      generalize H15.set nm (X.lst (namesN ps)) = H16
      intro hd16
      clear prp o15 hnm hd14 s14 hDB pbx ptx
      refine EvL.cons (Ev.dict0 fun he hhe => EvL.nil ⟨Nat.le_of_ble_eq_true rfl, ?_⟩)
      have hd17 := hd16.alloc (x := .dct []) hhe
      replace hd17 := hd17.own.weak (L' := [(he, .dct []), (nm, .lst (namesN ps)), (to, .lst (oppsN ps)), (sm, .lst ((wsN ps).map .str)), (L + 1 + 1 + 1, .cel none), (L + 1 + 1, .cel none), (L + 1, .cel none)]) (.cons_cons _ (.cons_cons _ (.cons _ (.cons_cons _ (.cons _ (.cons _ (.cons _ (.cons _ (.cons _ (.cons _ (.cons_cons _ (.cons_cons _ (.cons_cons _ (.cons_cons _ (List.nil_sublist _)))))))))))))))
      revert hd17
      generalize H16.set he (X.dct []) = H17
      intro o17
      clear hd16 hhe hd12
      refine Asg.tup (AsgL.cons (Asg.ncell rfl (o17.get (.tail _ (.tail _ (.tail _ (.tail _ (.tail _ (.tail _ (.head _)))))))) ?_))
      have o18 := o17.upd (y := .cel (some (.ref to))) 6 rfl
      revert o18; generalize H17.set (L + 1) (X.cel (some (.ref to))) = H18; intro o18
      refine AsgL.cons (Asg.ncell rfl (o18.get (.tail _ (.tail _ (.tail _ (.tail _ (.tail _ (.head _))))))) ?_)
      have o19 := o18.upd (y := .cel (some (.ref nm))) 5 rfl
      revert o19; generalize H18.set (L + 1 + 1) (X.cel (some (.ref nm))) = H19; intro o19
      refine AsgL.cons (Asg.ncell rfl (o19.get (.tail _ (.tail _ (.tail _ (.tail _ (.head _)))))) (AsgL.nil ?_))
      have o20 := o19.upd (y := .cel (some (.ref he))) 4 rfl
      revert o20; generalize H19.set (L + 1 + 1 + 1) (X.cel (some (.ref he))) = H20; intro o20
      replace o20 : Own H0 H20 [(he, .dct []), (nm, .lst (namesN ps)), (to, .lst (oppsN ps)), (sm, .lst ((wsN ps).map .str)), (L + 1 + 1 + 1, .cel (some (.ref he))), (L + 1 + 1, .cel (some (.ref nm))), (L + 1, .cel (some (.ref to)))] := o20
      clear o17 o18 o19
      -- the loops
      refine Ex.forRng1 (by one_sign) (by ktr_unf) rfl (EvP.callB (id := "len") (by ktr_unf) rfl (EvPL.cons (EvP.loc mb3) EvPL.nil) (CalP.lenL (o20.get (.tail _ (.tail _ (.tail _ (.head _))))) (by one_sign))) (by one_sign) (by one_sign) rfl ?_
      refine Lp.inv (fun i m H' => m (Str.ofString "some") = some (.ref sm) ∧ ∃ l, Keys l (heldS (wsN ps) i 0) ∧ l.length ≤ 64 * i ∧ Own H0 H' [(he, .dct l), (nm, .lst (namesN ps)), (to, .lst (oppsN ps)), (sm, .lst ((wsN ps).map .str)), (L + 1 + 1 + 1, .cel (some (.ref he))), (L + 1 + 1, .cel (some (.ref nm))), (L + 1, .cel (some (.ref to)))]) ?_ ?_ ⟨mb3, [], Keys.nil.iff fun k => ⟨fun h => h.elim, fun ⟨a, b, h, _⟩ => by one_sign⟩, Nat.zero_le _, o20⟩
      · clear o20 mb1 mb2 mb3
        rintro i d m3 H3 hi3 ⟨n1, l, hk, hl, o⟩
        obtain ⟨rfl, hl3⟩ := rngL_inv hi3
        have hi4 : i < ps.length := by one_sign
        rw [show (0 : Int) + i = (i : Int) by one_sign]
        refine ⟨trivial, Asg.name ?_⟩
        have lm : (lset m3 (Str.ofString "low") (.int i)) (Str.ofString "low") = some (.int (i : Int)) := lset_self
        have sm1 : (lset m3 (Str.ofString "low") (.int i)) (Str.ofString "some") = some (.ref sm) := lset_get (by decide) n1
        revert lm sm1
        generalize lset m3 (Str.ofString "low") (.int i) = m4
        intro lm sm1
        refine Ex.forRng2 (by one_sign) (by ktr_unf) rfl (EvP.bin (EvP.loc lm) EvP.cint BinP.add) (EvP.bin (EvP.callB (id := "len") (by ktr_unf) rfl (EvPL.cons (EvP.loc sm1) EvPL.nil) (CalP.lenL (o.get (.tail _ (.tail _ (.tail _ (.head _))))) (by one_sign))) EvP.cint BinP.add) (by one_sign) (by one_sign) (by one_sign) (by one_sign) rfl ?_
        refine Lp.inv (fun j m H' => (m (Str.ofString "some") = some (.ref sm) ∧ m (Str.ofString "low") = some (.int (i : Int))) ∧ ∃ l, Keys l (heldS (wsN ps) i (i + 2 + j)) ∧ l.length ≤ 64 * i + 8 * j ∧ Own H0 H' [(he, .dct l), (nm, .lst (namesN ps)), (to, .lst (oppsN ps)), (sm, .lst ((wsN ps).map .str)), (L + 1 + 1 + 1, .cel (some (.ref he))), (L + 1 + 1, .cel (some (.ref nm))), (L + 1, .cel (some (.ref to)))]) ?_ ?_ ⟨⟨sm1, lm⟩, l, hk.iff fun k => ?_, by one_sign, o⟩
        · clear o hk hl l sm1 lm H3
          rintro j d m5 H5 hj ⟨⟨n2, n3⟩, l, hk, hl, o⟩
          obtain ⟨rfl, hlj⟩ := rngL_inv hj
          have hj4 : i + 2 + j ≤ ps.length := by one_sign
          rw [show (i : Int) + 2 + j = ((i + 2 + j : Nat) : Int) by one_sign]
          refine ⟨trivial, Asg.name ?_⟩
          have h1m : (lset m5 (Str.ofString "high") (.int ((i + 2 + j : Nat) : Int))) (Str.ofString "high") = some (.int ((i + 2 + j : Nat) : Int)) := lset_self
          have h2m : (lset m5 (Str.ofString "high") (.int ((i + 2 + j : Nat) : Int))) (Str.ofString "some") = some (.ref sm) := lset_get (by decide) n2
          have h3m : (lset m5 (Str.ofString "high") (.int ((i + 2 + j : Nat) : Int))) (Str.ofString "low") = some (.int (i : Int)) := lset_get (by decide) n3
          revert h1m h2m h3m
          generalize lset m5 (Str.ofString "high") (.int ((i + 2 + j : Nat) : Int)) = m6
          intro h1m h2m h3m
          have psm := o.get (.tail _ (.tail _ (.tail _ (.head _))))
          have step : ∀ k, heldS (wsN ps) i (i + 2 + (j + 1)) k ↔ (heldS (wsN ps) i (i + 2 + j) k ∨ (isNumB (cutW (wsN ps) i (i + 2 + j)) = true ∧ i < k ∧ k < i + 2 + j)) := fun k => by
            constructor
            · rintro ⟨a, b, h, h1, h2, h3, h4⟩
              by_cases e : a = i ∧ b = i + 2 + j
              · obtain ⟨rfl, rfl⟩ := e; exact .inr ⟨h4, h1, h2⟩
              · exact .inl ⟨a, b, by one_sign, h1, h2, h3, h4⟩
            · rintro (⟨a, b, h, h1, h2, h3, h4⟩ | ⟨h4, h1, h2⟩)
              · exact ⟨a, b, by one_sign, h1, h2, h3, h4⟩
              · exact ⟨i, i + 2 + j, by one_sign, h1, h2, by one_sign, h4⟩
          have ecut : pickL ((wsN ps).map D.str) (some (i : Int)) (some ((i + 2 + j : Nat) : Int)) none = (cutW (wsN ps) i (i + 2 + j)).map .str := by
            rw [pickL_run _ (by one_sign) (by one_sign)]
            unfold cutW
            rw [List.map_take, List.map_drop, Int.toNat_natCast, Int.toNat_natCast]
          refine Ex.iteJ (b := isNumB (cutW (wsN ps) i (i + 2 + j))) (P := fun m' H' => m' = m6 ∧ ∃ l', Keys l' (heldS (wsN ps) i (i + 2 + (j + 1))) ∧ l'.length ≤ 64 * i + 8 * (j + 1) ∧ Own H0 H' [(he, .dct l'), (nm, .lst (namesN ps)), (to, .lst (oppsN ps)), (sm, .lst ((wsN ps).map .str)), (L + 1 + 1 + 1, .cel (some (.ref he))), (L + 1 + 1, .cel (some (.ref nm))), (L + 1, .cel (some (.ref to)))]) ?_ (fun hb => ?_) (fun hb => ?_) ?_
          · refine EvB.p (EvB.plain (Ev.callG (by ktr_unf) (by ktr_unf) (EvL.cons (Ev.slc (EvP.to (EvP.loc h2m) ⟨sm, _, _, _, _, rfl, LstAt.own psm, .yes (EvP.loc h3m), .yes (EvP.loc h1m), .no, by simp, by rw [ltx, sizeLine_eq]; one_sign, fun sl hsl => EvL.nil ?_⟩)))))
            rw [ecut]
            exact Cal.mono (CalP.le (n := n + 19) (is_number_law_ok (n := n) (Hp.set_self ..) (by rw [cutW_len (by one_sign)]; one_sign)) (by one_sign)).h fun d H' ⟨e1, e2⟩ => by subst e1 e2; exact Tru.bool ⟨Sub.set hsl, rfl⟩
          · refine Ex.fresh fun hL5 => Ex.expr (Ev.methB (T := "dict") (id := "dict.update") PySem.F.plainAttrs_dict PySem.F.slot_dict_update PySem.F.type_dict_update (EvP.to (EvP.cell rfl (o.get (.tail _ (.tail _ (.tail _ (.tail _ (.head _))))))) ⟨he, rfl, dict_there hL5 (o.get (.head _)), EvL.cons ?_⟩))
            refine Ev.callTy (by ktr_unf) rfl (EvL.cons (Ev.comp (cl := []) (by one_sign) ?_ ?hcl))
            case hcl => rfl
            refine Ev.callTy (by ktr_unf) rfl (EvL.cons (EvP.to (EvP.bin (EvP.loc h3m) EvP.cint BinP.add) (EvL.cons (EvP.to (EvP.loc h1m) (EvL.nil (Cal.rng2 ⟨isNm, H5, rngL ((i : Int) + 1) ((i + 2 + j : Nat) : Int), _, Itr.rng (by one_sign) (by one_sign) (by one_sign) (by one_sign), rfl, hL5, by rw [rngL_len, sizeLine_eq]; one_sign, fun C hC hCL => ?_⟩))))))
            refine Lc.inv (fun t m' H' acc => H' = H5 ∧ acc = (tru (i + 1) t).map pairD) ?_ ?_ ⟨rfl, rfl⟩
            · rintro t d m' H' acc ht ⟨rfl, rfl⟩
              obtain ⟨rfl, hlt⟩ := rngL_inv ht
              refine ⟨trivial, Asg.name ⟨fun _ => EvP.to (EvP.tup (EvPL.cons (EvP.loc lset_self) (EvPL.cons EvP.cbool EvPL.nil))) ⟨rfl, ?_⟩, fun h => by cases h⟩⟩
              unfold tru
              rw [List.range_succ, List.map_append, List.map_append]
              show _ = _ ++ [D.tup [.int ((i + 1 + t : Nat) : Int), .bool true]]
              rw [show (i : Int) + 1 + t = ((i + 1 + t : Nat) : Int) by one_sign]
            · rintro m' H' acc ⟨rfl, rfl⟩
              rw [rngL_len, show (((i + 2 + j : Nat) : Int) - ((i : Int) + 1)).toNat = j + 1 by one_sign]
              refine ⟨trivial, fun la hla _ => EvL.nil (Cal.le (n := n + 19) (k := n + 4) (Cal.dictL (n := n) (Hp.set_self ..) (by unfold tru; simp; one_sign) fun nd hnd => EvL.nil ?_) (by one_sign))⟩
              have o6 := (o.alloc hla).alloc (x := .dct (putAll (tru (i + 1) (j + 1)) [])) hnd
              have tk := tru_keys (i + 1) (j + 1)
              have tl : (putAll (tru (i + 1) (j + 1)) []).length ≤ j + 1 := by
                have := putAll_len (ps := tru (i + 1) (j + 1)) (acc := [])
                have e : (tru (i + 1) (j + 1)).length = j + 1 := by unfold tru; simp
                simp only [List.length_nil, e] at this
                one_sign
              refine Cal.dupd (o6.get (.tail _ (.tail _ (.head _)))) (o6.get (.head _)) (Hp.other (o6.get (.tail _ (.tail _ (.tail _ (.head _))))) (o6.get (.head _)) (fun e => by cases e) |> fun _ => ?ne) hk.nod tk.nod (by one_sign) (Ex.nil ⟨rfl, rfl, mergeD l (putAll (tru (i + 1) (j + 1)) []), ?_, ?_, ?_⟩)
              case ne => exact Hp.apart (o6.get (.tail _ (.tail _ (.head _))) |> fun _ => Hp.keep hla (o.get (.head _))) hnd
              · refine (hk.merge tk.key tk.has).iff fun k => ?_
                rw [step k, hb]
                constructor
                · rintro (h | h)
                  · exact .inl h
                  · exact .inr ⟨rfl, by one_sign, by one_sign⟩
                · rintro (h | ⟨_, h1, h2⟩)
                  · exact .inl h
                  · exact .inr (by one_sign)
              · have := merge_len (l := l) (r := putAll (tru (i + 1) (j + 1)) [])
                one_sign
              · exact (o6.upd 2 rfl).weak (.cons _ (.cons _ (.refl _)))
          · refine ⟨rfl, l, hk.iff fun k => ?_, by one_sign, o⟩
            rw [step k, hb]
            constructor
            · exact fun h => .inl h
            · rintro (h | ⟨h, _⟩)
              · exact h
              · cases h
          · rintro m7 H7 ⟨rfl, l', hk', hl', o'⟩
            exact Ex.nil ⟨⟨h2m, h3m⟩, l', hk', hl', o'⟩
        · clear o hk hl l sm1 lm H3
          rintro m5 H5 ⟨⟨n2, n3⟩, l, hk, hl, o⟩
          rw [rngL_len] at hk hl
          refine ⟨trivial, Ex.nil ⟨n2, l, hk.iff fun k => ?_, by one_sign, o⟩⟩
          constructor
          · rintro ⟨a, b, h, h1, h2, h3, h4⟩; exact ⟨a, b, by one_sign, h1, h2, h3, h4⟩
          · rintro ⟨a, b, h, h1, h2, h3, h4⟩; exact ⟨a, b, by one_sign, h1, h2, h3, h4⟩
        · constructor
          · rintro ⟨a, b, h, h1, h2, h3, h4⟩; exact ⟨a, b, by one_sign, h1, h2, h3, h4⟩
          · rintro ⟨a, b, h, h1, h2, h3, h4⟩; exact ⟨a, b, by one_sign, h1, h2, h3, h4⟩
      · clear o20 mb1 mb2 mb3
        rintro m3 H3 ⟨n1, l, hk, hl, o⟩
        rw [rngL_len] at hk hl
        replace hk : Keys l (heldP (wsN ps)) := hk.iff fun k => by
          constructor
          · rintro ⟨a, b, h, h1, h2, h3, h4⟩; exact ⟨a, b, h1, h2, h3, h4⟩
          · rintro ⟨a, b, h1, h2, h3, h4⟩; exact ⟨a, b, by one_sign, h1, h2, h3, h4⟩
        refine ⟨trivial, Ex.pin (o.get (.head _)) fun ep => ?_⟩
        have o3 := o.upd (y := pinX w.params l ep) 0 rfl
        show Ex _ _ _ _ (H3.set he (pinX w.params l ep)) _ _
        revert o3
        generalize H3.set he (pinX w.params l ep) = H4
        intro o3
        replace o3 : Own H0 H4 [(he, pinX w.params l ep), (nm, .lst (namesN ps)), (to, .lst (oppsN ps)), (sm, .lst ((wsN ps).map .str)), (L + 1 + 1 + 1, .cel (some (.ref he))), (L + 1 + 1, .cel (some (.ref nm))), (L + 1, .cel (some (.ref to)))] := o3
        refine Ex.fresh fun hL4 => ?_
        refine Ex.iteP (x := false) ?t1 (fun h => by cases h) (fun _ => Ex.nil ?_)
        case t1 =>
          refine EvB.p (EvB.cmp (Ev.comp (cl := [(Str.ofString "told", L + 1)]) (by one_sign) ?_ ?hcl))
          case hcl => rfl
          refine EvP.to (EvP.cell rfl (o3.get (.tail _ (.tail _ (.tail _ (.tail _ (.head _))))))) ⟨_, _, _, _, Itr.dict (o3.get (.head _)) hk.nod, rfl, hL4, by rw [List.length_map, sizeLine_eq]; one_sign, fun C hC hCL => ?_⟩
          refine Lc.inv (fun t m' H' acc => H' = H4 ∧ acc = []) ?_ ?_ ⟨rfl, rfl⟩
          · rintro t d m' H' acc ht ⟨rfl, rfl⟩
            rw [List.getElem?_map] at ht
            obtain ⟨p, hp1, rfl⟩ := Option.map_eq_some_iff.mp ht
            obtain ⟨k, e, hs⟩ := hk.key p (List.mem_of_getElem? hp1)
            rw [e]
            have pt := held_told hp hs
            refine ⟨o3.get (.head _), Asg.name (EvPB.to (b := false) (EvPB.cmp (d1 := ss "no") (EvP.item (EvP.cell rfl (o3.get (.tail _ (.tail _ (.tail _ (.tail _ (.tail _ (.tail _ (.head _))))))))) (EvP.loc lset_self) (ItemP.lst (o3.get (.tail _ (.tail _ (.head _)))) (by one_sign) (by rw [Int.toNat_natCast]; exact pt) (by rw [lo1]; one_sign))) EvP.cstr CmpP.ne) ⟨fun h => (by cases h), fun _ => ⟨rfl, rfl⟩⟩)⟩
          · rintro m' H' acc ⟨rfl, rfl⟩
            refine ⟨o3.get (.head _), fun b hb _ => Ev.lst (EvL.nil ⟨Nat.le_of_ble_eq_true rfl, fun e he' _ => Cmp.neL (Hp.keep he' (Hp.set_self ..)) (Hp.set_self ..) (Tru.bool ⟨(Sub.set hb).trans (Sub.set he'), by decide⟩) rfl (by one_sign)⟩)⟩
        refine Ex.unpin (o3.get (.head _)) ?_
        have o5 := o3.upd (y := .dct l) 0 rfl
        revert o5
        generalize H4.set he (.dct l) = H5
        intro o5
        replace o5 : Own H0 H5 [(he, .dct l), (nm, .lst (namesN ps)), (to, .lst (oppsN ps)), (sm, .lst ((wsN ps).map .str)), (L + 1 + 1 + 1, .cel (some (.ref he))), (L + 1 + 1, .cel (some (.ref nm))), (L + 1, .cel (some (.ref to)))] := o5
        refine Ex.fresh fun hL5 => Ex.ret (Ev.eqNil (Ev.comp (cl := [(Str.ofString "names", L + 1 + 1), (Str.ofString "held", L + 1 + 1 + 1)]) (by one_sign) ?_ ?hcl) (by one_sign))
        case hcl => rfl
        refine Ev.callTy (by ktr_unf) rfl (EvL.cons (EvP.to (EvP.callB (id := "len") (by ktr_unf) rfl (EvPL.cons (EvP.cell rfl (o5.get (.tail _ (.tail _ (.tail _ (.tail _ (.tail _ (.head _)))))))) EvPL.nil) (CalP.lenL (o5.get (.tail _ (.head _))) (by one_sign))) (EvL.nil (Cal.rng1 ⟨isNm, H5, rngL 0 ((namesN ps).length : Nat), _, Itr.rng (by one_sign) (by one_sign) (by one_sign) (by one_sign), rfl, hL5, by rw [rngL_len, sizeLine_eq]; one_sign, fun C hC hCL => ?_⟩))))
        refine Lc.inv (fun t m' H' acc => H' = H5 ∧ acc = []) ?_ ?_ ⟨rfl, rfl⟩
        · rintro t d m' H' acc ht ⟨rfl, rfl⟩
          obtain ⟨rfl, hlt⟩ := rngL_inv ht
          rw [show (0 : Int) + t = (t : Int) by one_sign]
          have ht2 : t ≤ ps.length := by one_sign
          obtain ⟨y, hy⟩ : ∃ y, (namesN ps)[t]? = some (.str y) := by
            unfold namesN
            rw [List.getElem?_map, verN_at ht2]
            split
            · exact ⟨_, rfl⟩
            · split
              · exact ⟨_, rfl⟩
              · obtain ⟨a, b, e⟩ := pair_of (verdict_pair (VN ps) gcN eaN t)
                rw [e]; exact ⟨b, rfl⟩
          refine ⟨trivial, Asg.name (EvPB.to (b := false) ?_ ⟨fun h => (by cases h), fun _ => ⟨rfl, rfl⟩⟩)⟩
          refine EvPB.conv (EvPB.and (a := y == Str.ofString "LB25") (b := !(kget (.inr (t : Int)) l).isSome) (EvPB.cmp (d1 := .str y) (d2 := ss "LB25") (EvP.item (EvP.cell rfl (o5.get (.tail _ (.tail _ (.tail _ (.tail _ (.tail _ (.head _)))))))) (EvP.loc lset_self) (ItemP.lst (o5.get (.tail _ (.head _))) (by one_sign) (by rw [Int.toNat_natCast]; exact hy) (by rw [ln1]; one_sign))) EvP.cstr CmpP.eq) fun _ => EvPB.and1 (EvPB.cmp (EvP.loc lset_self) (EvP.cell rfl (o5.get (.tail _ (.tail _ (.tail _ (.tail _ (.head _))))))) ⟨Cmp.ninD (k := .inr (t : Int)) (DctAt.own (o5.get (.head _))) ⟨rfl, rfl⟩⟩)) ?_
          cases hq : y == Str.ofString "LB25" with
          | false => rfl
          | true =>
            have := beq_iff_eq.mp hq
            subst this
            rw [hk.has t (named_held hp ht2 hy)]; rfl
        · rintro m' H' acc ⟨rfl, rfl⟩
          exact ⟨trivial, fun b hb _ => ⟨b, [], rfl, Hp.set_self .., fun H2 s2 => q H2⟩⟩
end

-- row 01: the law
section
variable {w : World} {mg mb : Str → Option Value} {lo : Lo} {n : Nat}

theorem law_ok (hz : lo.2.2.length ≤ 63) : CalC (mkG w mg mb lo) (n + 21) (fun _ => none) (.ref 553) [.ref lo.2.1] fun d _ => d = .bool true := by
  refine CalC.fn (es := [.ref lo.2.1]) [Str.ofString "script"] (by ktr_unf) (by ktr_unf) (fun B T s vs k i => BindsTo.one (fun a => rfl) i) (fun L0 hL => ?_)
  refine Ex.asg (Ev.callG (by ktr_unf) (by ktr_unf) (EvL.cons (EvP.to (EvP.loc rfl) (EvL.nil (CalC.cal (CalC.le (law_deck_ok (n := n) hz fun dk c H3 hdk => Asg.name ?_) (by one_sign)))))))
  refine Ex.ret (Ev.ifx (EvB.cmp (Ev.callG (by ktr_unf) (by ktr_unf) (EvL.cons (EvP.to (EvP.loc lset_self) (EvL.cons (EvP.cint.to (EvL.nil ?_))))))))
  refine CalC.cal (CalC.le (law_draw_ok (n := n) hdk (by decide) fun v H7 v0 v1 hd2 => EvP.cint.to (Cmp.eq (Tru.bool ⟨fun _ => ?_, fun _ => ?_⟩))) (by one_sign))
  · exact Ev.callG (by ktr_unf) (by ktr_unf) (EvL.cons (EvP.to (EvP.loc lset_self) (EvL.nil (CalC.cal (syllables_ok (n := n) hd2 fun H' => rfl)))))
  · exact Ev.callG (by ktr_unf) (by ktr_unf) (EvL.cons (EvP.to (EvP.loc lset_self) (EvL.nil (CalC.cal (numbers_ok (n := n) hd2 fun H' => rfl)))))
end

-- the join
section
variable {w : World} {mg mb : Str → Option Value} {lo : Lo}
local macro_rules | `(tactic| ktr_unf) => `(tactic| (dsimp only [mkG]; k_is))
theorem law_at {h : Heap} (KX : (H.frag w.params).In h) (T : TopRead H.view lo.1 mg mb h) {fa : Addr} (hm : mg (Str.ofString "law") = some (.ref fa)) : fa = 553 := by
  have e : nsIn (mkG w mg mb lo).K mainGlobals (Str.ofString "law") = some (some (.ref 553)) := by ktr_unf
  have := mg_of (K := H.frag w.params) KX T.g e
  rw [hm] at this
  cases this; rfl
theorem law_ends {s : Shared} {vs : List Value} (hlaw : CalC (mkG w mg mb lo) 21 (fun _ => none) (.ref 553) [.ref lo.2.1] fun d _ => d = .bool true) (KX : (H.frag w.params).In s.heap) (T : TopRead H.view lo.1 mg mb s.heap) (hL : s.heap.IsList lo.2.1 vs.toArray) (hI : IntsAre vs lo.2.2) :
    codeAny (model PySem.Challenge.pw_on0381_01 w) callerA (.call (.ref 553) ⟨[.ref lo.2.1], []⟩) (fun r s' => r = .ok (.ret (.bool true)) ∧ (∀ b o, s.heap.get? b = some o → s'.heap.get? b = some o) ∧ s'.os = s.os ∧ s'.gens = s.gens) s := by
  have TT : TopOk (mkG w mg mb lo) s.heap := ⟨KX, T, vs, hL, hI⟩
  have key : ∃ o, s.heap.get? mainGlobals = some o := by
    obtain ⟨o, _, _, ho, _⟩ := T.g
    exact ⟨o, ho⟩
  obtain ⟨o, ho⟩ := key
  refine codeAny_mono (hlaw s [.ref lo.2.1] (.cons (.ref _) .nil) s.heap callerA TT ⟨rfl, by decide, by decide⟩ ⟨fun b o e => e, fun a x e => (by cases e), ⟨mainGlobals, o, by decide, ho⟩, fun a x e => (by cases e)⟩) ?_
  rintro r s' ⟨v, d, H', rfl, i, S, st, rfl⟩
  cases i
  exact ⟨rfl, S.keep, st.os, st.gens⟩
end
theorem post02 {args after : List WData} (h : after = args) : (PySem.Challenge.rw_on0381_01).row.claim.post args (.bool true) after = true := by
  subst h
  exact postW_of (r := (PySem.Challenge.rw_on0381_01).row.toRowW) (X := true == true) rfl (w_eq_bool (w_res rfl) w_lit) rfl

end Mine
open PySem PySem.W PyProof.Rows PySem.Spec PySem.Calls
theorem Mine.ws : OpenLaw.wellSaid PySem.Challenge.rw_on0381_01 = true := by kernel_rfl
set_option maxHeartbeats 8000000 in
theorem PySem.Challenge.cw_on0381_01_holds : PySem.Challenge.rw_on0381_01.Holds := by
  refine holds_law Mine.ws fun said => ?_
  refine holds_open (q := Mine.H.view) (loose := [Str.ofString "UniError", Str.ofString "LINE_JAMO", Str.ofString "LineBreaks"]) (Xt := fun s => xlAt Mine.H.view [] s && recOk PySem.Challenge.rw_on0381_01.row.records s) (XP := XL Mine.H.view []) (Yf := Mine.H.hook.obs) (Ya := Mine.H.hook.val) (YP := Mine.H.hook.says) (N := 7960) Mine.H.left Mine.H.hook.of Mine.H.hook.keeps (fun s e => xl_of s (Bool.and_eq_true_iff.mp e).1) XL.keeps (by rfl) (by rfl) (by rfl) (fun s e => recFacts_of (Bool.and_eq_true_iff.mp e).2) (by rfl) said Mine.H.p40 ⟨rfl, rfl, rfl, rfl, rfl, Mine.H.p41⟩ ⟨[.list []], Mine.H.p653, Mine.H.p654⟩ ?_
  intro w s₀ s₁ mg mb G Y fa o pm cd doc dV kV ho hd' hcd hD hmg hg args vals as hpre hlay hrd hwl hlo
  have KX := kIn_of (K := Mine.H.frag) Y
  refine Ground.open G ?_
  intro T B D TE TW
  wrow_args hpre hlay hrd hwl hlo
  first | refine callC_kw (enter_call ?_) | refine enter_call ?_ | refine callC_kw (enter_callW ?_) | refine enter_callW ?_ | w_how
  refine codeAny_mono ?_ (fun _ _ g => GoodW.toG g)
  have TR := topRead_of T
  have hfa := Mine.law_at (w := w) (lo := (_, 0, [])) KX TR hmg
  subst hfa
  refine codeAny_mono (Mine.law_ends (lo := (_, _, _)) (Mine.law_ok (n := 0) ?hz) KX TR (by with_reducible assumption) (by with_reducible assumption)) ?_
  case hz => dsimp only; omega
  rintro r s' ⟨rfl, hk, hos, hge⟩
  exact ⟨.inl ⟨.bool true, .bool true, [], rfl, fun _ => rfl, .bool true, Mine.post02 rfl, fun _ => ⟨.nil, fun a ha => by cases ha⟩⟩, hk, hos, hge.trans hg⟩

