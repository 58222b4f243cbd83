import PyProof.Rows.All
import Wide.All
import OpenK.AllK
import Wide.FinOn
import HandS.ForMost
import HandS.Walk
import HandS.Evl
import HandS.Style
import HandS.Gcd
import HandS.Wide
import HandS.Steps
import HandS.Defaults
import HandS.IsInst
import HandS.ReplaceList
import HandS.Deep
import KE.GoesEnum
import KE.GoesZip
import KE.GoesMore
import HandS.DictTup
import HandS.DictComp
import KE.KDictDisplayH
import HandS.More
import KE.SortData
import KE.KDictSum
import HandS.ReplaceDef
import HandS.ReplaceLit
import HandS.Codes
import KE.KStateDown
import Lean
import HandS.Base
import HandS.Call
import HandS.Ends
import HandS.Words
import HandS.WordsExc
import HandS.Head0
import HandS.Head1
import HandS.Head2
import HandS.Head3
import HandS.HeadEnd
import HandS.HeadHook1
import HandS.HeadHook2
import PySem.Challenge.RW_rightfares_k28_whole_foretold_holds
set_option Elab.async false
set_option linter.all false
set_option maxRecDepth 100000
set_option maxHeartbeats 4000000
/-! Cal1: heaps that grow, representation predicates, environments, evaluation of readings. -/
namespace Rf
open PySem L2

/-! ### heaps -/
def Sub (A B : Hp) : Prop := ∀ a o, A a = some o → B a = some o
def Le (A B : Hp) : Prop := ∀ a o, A a = some o → B a = some o ∨ ∃ (od : Obj) (φ : Heap → Prop), o = .ext φ ∧ B a = some (.frz od o)
theorem Sub.refl {A : Hp} : Sub A A := fun _ _ h => h
theorem Sub.trans {A B C : Hp} (x : Sub A B) (y : Sub B C) : Sub A C := fun a o h => y a o (x a o h)
theorem Sub.le {A B : Hp} (x : Sub A B) : Le A B := fun a o h => .inl (x a o h)
theorem Le.refl {A : Hp} : Le A A := fun _ _ h => .inl h
theorem Le.trans {A B C : Hp} (x : Le A B) (y : Le B C) : Le A C := fun a o h => by
  rcases x a o h with h1 | ⟨od, φ, e, h1⟩
  · exact y a o h1
  · rcases y a _ h1 with h2 | ⟨od2, φ2, e2, h2⟩
    · exact .inr ⟨od, φ, e, h2⟩
    · cases e2
theorem Le.lst {A B : Hp} {a : Addr} {xs : List V} (x : Le A B) (h : A a = some (.lst xs)) : B a = some (.lst xs) := by
  rcases x a _ h with h1 | ⟨_, _, e, _⟩
  · exact h1
  · cases e
theorem Le.tup {A B : Hp} {a : Addr} {xs : List V} (x : Le A B) (h : A a = some (.tup xs)) : B a = some (.tup xs) := by
  rcases x a _ h with h1 | ⟨_, _, e, _⟩
  · exact h1
  · cases e
theorem Le.ins {A B : Hp} {a C dx : Addr} {fs : List (Str × V)} (x : Le A B) (h : A a = some (.ins C dx fs)) : B a = some (.ins C dx fs) := by
  rcases x a _ h with h1 | ⟨_, _, e, _⟩
  · exact h1
  · cases e
theorem Le.frz {A B : Hp} {a : Addr} {o : Obj} {u : HO} (x : Le A B) (h : A a = some (.frz o u)) : B a = some (.frz o u) := by
  rcases x a _ h with h1 | ⟨_, _, e, _⟩
  · exact h1
  · cases e
theorem Le.sqt {K : PySem.W.Frag} {A B : Hp} {a : Addr} {xs : List V} (x : Le A B) (h : SqT K A a xs) : SqT K B a xs := by
  rcases h with (h | ⟨o, h⟩) | h
  · exact .inl (.inl (x.tup h))
  · exact .inl (.inr ⟨o, x.frz h⟩)
  · exact .inr h
theorem Le.no {A B : Hp} {a : Addr} (x : Le A B) (h : B a = none) : A a = none := by
  cases q : A a with
  | none => rfl
  | some o =>
    rcases x a o q with h1 | ⟨_, _, _, h1⟩
    · rw [h] at h1; cases h1
    · rw [h] at h1; cases h1
theorem Sub.no {A B : Hp} {a : Addr} (x : Sub A B) (h : B a = none) : A a = none := x.le.no h
theorem Sub.new {A H : Hp} {p : Addr} {o : HO} (x : Sub A H) (h : H p = none) : Sub A (upd H p o) := fun a u e => by
  rw [upd_ne (fun z => by rw [z] at e; rw [x _ _ e] at h; cases h)]
  exact x a u e
theorem Sub.both {A H : Hp} {p : Addr} {o : HO} (x : Sub A H) : Sub (upd A p o) (upd H p o) := fun a u e => by
  by_cases q : a = p
  · subst q; rw [upd_same] at e ⊢; exact e
  · rw [upd_ne q] at e ⊢; exact x a u e
theorem le_new {A : Hp} {p : Addr} {o : HO} (h : A p = none) : Le A (upd A p o) := fun a u e => by
  refine .inl ?_
  rw [upd_ne (fun z => by rw [z, h] at e; cases e)]
  exact e

/-! ### the law's box: a list of a row and a place -/
def Box (A H : Hp) (b : Addr) : Prop := ∃ (r : Addr) (xs : List Int) (n : Int), H b = some (.lst [.ref r, .int n]) ∧ A r = some (.lst (xs.map V.int)) ∧ 0 ≤ n ∧ xs.length ≤ 100000
theorem Box.le {A B H : Hp} {b : Addr} (x : Box A H b) (l : Le A B) : Box B H b := by
  obtain ⟨r, xs, n, h1, h2, h3⟩ := x
  exact ⟨r, xs, n, h1, l.lst h2, h3⟩

/-- from the base A within the heap H to the base B within H' : the base grows, what stands outside of it stays (but the box at β) -/
structure Grow (β : Option Addr) (A H B H' : Hp) : Prop where
  le : Le A B
  sub : Sub B H'
  own : ∀ a o, β ≠ some a → A a = none → H a = some o → B a = none ∧ H' a = some o
  box : ∀ b, β = some b → A b = none → Box A H b → B b = none ∧ Box B H' b
theorem Grow.refl {β : Option Addr} {A H : Hp} (s : Sub A H) : Grow β A H A H := ⟨Le.refl, s, fun _ _ _ h1 h2 => ⟨h1, h2⟩, fun _ _ h1 h2 => ⟨h1, h2⟩⟩
theorem Grow.trans {β : Option Addr} {A H B H' C H'' : Hp} (x : Grow β A H B H') (y : Grow β B H' C H'') : Grow β A H C H'' :=
  ⟨x.le.trans y.le, y.sub, fun a o n h1 h2 => let ⟨q1, q2⟩ := x.own a o n h1 h2; y.own a o n q1 q2, fun b n h1 h2 => let ⟨q1, q2⟩ := x.box b n h1 h2; y.box b n q1 q2⟩
/-- what a def without the box does, seen where there is one -/
theorem Grow.free {β : Option Addr} {A H B H' : Hp} (x : Grow none A H B H') : Grow β A H B H' :=
  ⟨x.le, x.sub, fun a o _ h1 h2 => x.own a o (fun z => nomatch z) h1 h2, fun b _ h1 h2 => by
    obtain ⟨r, xs, n, e1, e2, e3⟩ := h2
    obtain ⟨q1, q2⟩ := x.own b _ (fun z => nomatch z) h1 e1
    exact ⟨q1, r, xs, n, q2, x.le.lst e2, e3⟩⟩
/-- a new object that is in the base at once -/
theorem Grow.new {β : Option Addr} {A H : Hp} {p : Addr} {o : HO} (s : Sub A H) (h : H p = none) : Grow β A H (upd A p o) (upd H p o) := by
  have ha : A p = none := s.no h
  refine ⟨le_new ha, s.both, fun a u _ h1 h2 => ?_, fun b _ h1 h2 => ?_⟩
  · have n : a ≠ p := fun z => by rw [z, h] at h2; cases h2
    rw [upd_ne n, upd_ne n]; exact ⟨h1, h2⟩
  · obtain ⟨r, xs, n, e1, e2, e3⟩ := h2
    have n : b ≠ p := fun z => by rw [z, h] at e1; cases e1
    have n2 : r ≠ p := fun z => by rw [z, ha] at e2; cases e2
    rw [upd_ne n]
    exact ⟨h1, r, _, _, by rw [upd_ne n]; exact e1, by rw [upd_ne n2]; exact e2, e3⟩
/-- a new object that is outside of the base -/
theorem Grow.newOwn {β : Option Addr} {A H : Hp} {p : Addr} {o : HO} (s : Sub A H) (h : H p = none) : Grow β A H A (upd H p o) := by
  refine ⟨Le.refl, s.new h, fun a u _ h1 h2 => ?_, fun b _ h1 h2 => ?_⟩
  · rw [upd_ne (fun z => by rw [z, h] at h2; cases h2)]; exact ⟨h1, h2⟩
  · obtain ⟨r, xs, n, e1, e2, e3⟩ := h2
    exact ⟨h1, r, _, _, by rw [upd_ne (fun z => by rw [z, h] at e1; cases e1)]; exact e1, e2, e3⟩

/-! ### what represents what -/
abbrev RP (α : Type) := Hp → V → α → Prop
class Mono {α : Type} (r : RP α) : Prop where
  le : ∀ {A B : Hp} {v : V} {x : α}, Le A B → r A v x → r B v x
/-- a thing in an environment: base, heap, value; what it owns -/
structure Ent where
  p : Hp → Hp → V → Prop
  fp : Hp → V → Addr → Prop
  ow : ∀ {A H : Hp} {v : V} {a : Addr}, p A H v → fp H v a → A a = none ∧ ∃ o, H a = some o
  st : ∀ {A H B H' : Hp} {v : V}, p A H v → Le A B → (∀ a o, fp H v a → H a = some o → B a = none ∧ H' a = some o) → p B H' v ∧ ∀ a, fp H' v a → fp H v a
/-- a thing that is in the base -/
def sh {α : Type} (r : RP α) [m : Mono r] (x : α) : Ent where
  p := fun A _ v => r A v x
  fp := fun _ _ _ => False
  ow := fun _ h => h.elim
  st := fun h l _ => ⟨m.le l h, fun _ z => z.elim⟩
/-- the box -/
def boxE (b : Addr) : Ent where
  p := fun _ _ v => v = .ref b
  fp := fun _ _ _ => False
  ow := fun _ h => h.elim
  st := fun h _ _ => ⟨h, fun _ z => z.elim⟩
/-- a list of one's own, not yet in the base -/
def ownL {α : Type} (r : RP α) [m : Mono r] (xs : List α) : Ent where
  p := fun A H v => ∃ (l : Addr) (vs : List V), v = .ref l ∧ A l = none ∧ H l = some (.lst vs) ∧ Paired (r A) vs xs
  fp := fun _ v a => v = .ref a
  ow := fun h e => by
    obtain ⟨l, vs, rfl, h1, h2, _⟩ := h
    cases e
    exact ⟨h1, _, h2⟩
  st := fun h l k => by
    obtain ⟨a, vs, rfl, h1, h2, h3⟩ := h
    obtain ⟨q1, q2⟩ := k a _ rfl h2
    exact ⟨⟨a, vs, rfl, q1, q2, Paired.mapP h3 fun _ _ z => m.le l z⟩, fun _ z => z⟩

abbrev EnvA := List (Option Ent)
/-- the slots σ are as Γ says, over the base A within H, for a def entered at the heap H0 -/
structure Rel (β : Option Addr) (H0 : Hp) (Γ : EnvA) (σ : L2.St) (A H : Hp) : Prop where
  sub : Sub A H
  len : σ.length = Γ.length
  h0 : ∀ a, H a = none → H0 a = none
  bx : ∀ b, β = some b → A b = none ∧ Box A H b ∧ ∃ o, H0 b = some o
  ent : ∀ (i : Nat) (e : Ent), Γ[i]? = some (some e) → ∃ v, σ[i]? = some (some v) ∧ e.p A H v ∧ ∀ a, e.fp H v a → H0 a = none
  sep : ∀ (i j : Nat) (e e' : Ent) (v v' : V) (a : Addr), i ≠ j → Γ[i]? = some (some e) → Γ[j]? = some (some e') → σ[i]? = some (some v) → σ[j]? = some (some v') → e.fp H v a → ¬ e'.fp H v' a
theorem Rel.grow {β : Option Addr} {H0 : Hp} {Γ : EnvA} {σ : L2.St} {A H B H' : Hp} (R : Rel β H0 Γ σ A H) (g : Grow β A H B H') : Rel β H0 Γ σ B H' := by
  have key : ∀ {e : Ent} {v : V}, e.p A H v → (∀ a, e.fp H v a → H0 a = none) → e.p B H' v ∧ ∀ a, e.fp H' v a → e.fp H v a := fun {e v} hp hf =>
    e.st hp g.le fun a o fa ha => g.own a o (fun z => by
      obtain ⟨_, _, o', q⟩ := R.bx a z
      rw [hf a fa] at q; cases q) (e.ow hp fa).1 ha
  have ho : ∀ a, H' a = none → H0 a = none := fun a z => by
    refine R.h0 a ?_
    cases q : H a with
    | none => rfl
    | some o =>
      exfalso
      cases q2 : A a with
      | some u => have := g.le.no (g.sub.no z); rw [q2] at this; cases this
      | none =>
        by_cases hb : β = some a
        · obtain ⟨h1, h2, _⟩ := R.bx a hb
          obtain ⟨_, _, _, _, h3, _⟩ := g.box a hb h1 h2
          rw [z] at h3; cases h3
        · rw [(g.own a o hb q2 q).2] at z; cases z
  refine ⟨g.sub, R.len, ho, fun b hb => ?_, fun i e he => ?_, fun i j e e' v v' a n h1 h2 h3 h4 h5 h6 => ?_⟩
  · obtain ⟨h1, h2, h3⟩ := R.bx b hb
    obtain ⟨q1, q2⟩ := g.box b hb h1 h2
    exact ⟨q1, q2, h3⟩
  · obtain ⟨v, h1, h2, h3⟩ := R.ent i e he
    obtain ⟨q1, q2⟩ := key h2 h3
    exact ⟨v, h1, q1, fun a z => h3 a (q2 a z)⟩
  · obtain ⟨w, g1, g2, g3⟩ := R.ent i e h1
    obtain ⟨w', g1', g2', g3'⟩ := R.ent j e' h2
    rw [h3] at g1; cases g1
    rw [h4] at g1'; cases g1'
    exact R.sep i j e e' v v' a n h1 h2 h3 h4 ((key g2 g3).2 a h5) ((key g2' g3').2 a h6)
theorem Rel.boxOk {β : Option Addr} {H0 : Hp} {Γ : EnvA} {σ : L2.St} {A H : Hp} (R : Rel β H0 Γ σ A H) {b : Addr} (h : β = some b) : A b = none ∧ Box A H b := let ⟨h1, h2, _⟩ := R.bx b h; ⟨h1, h2⟩

theorem Rel.back {β : Option Addr} {H0 : Hp} {Γ : EnvA} {σ : L2.St} {A H B H' : Hp} (R : Rel β H0 Γ σ A H) (g : Grow β A H B H') {l : Addr} (h : H' l = none) : H l = none := by
  cases z : H l with
  | none => rfl
  | some o =>
    exfalso
    cases q2 : A l with
    | some u => have := g.le.no (g.sub.no h); rw [q2] at this; cases this
    | none =>
      by_cases hb : β = some l
      · obtain ⟨h1, h2⟩ := R.boxOk hb
        obtain ⟨_, _, _, _, h3, _⟩ := g.box l hb h1 h2
        rw [h] at h3; cases h3
      · rw [(g.own l o hb q2 z).2] at h; cases h

/-! ### evaluation of readings -/
/-- te gives a thing that represents some x of which p holds -/
def Ev (β : Option Addr) (te : TE) (Γ : EnvA) {α : Type} (r : RP α) (p : α → Prop) : Prop :=
  ∀ (H0 : Hp) (σ : L2.St) (A H : Hp), Rel β H0 Γ σ A H → ∀ Q : VK, (∀ v x B H', Grow β A H B H' → p x → r B v x → Q v H') → te σ H Q
def EvT (β : Option Addr) (tt : TT) (Γ : EnvA) (p : Bool → Prop) : Prop :=
  ∀ (H0 : Hp) (σ : L2.St) (A H : Hp), Rel β H0 Γ σ A H → ∀ Q : Bool → Hp → Prop, (∀ b B H', Grow β A H B H' → p b → Q b H') → tt σ H Q
/-- arguments: the values are as some list of things that p takes -/
def Ents (es : List Ent) (vs : List V) (A H : Hp) : Prop := Paired (fun (v : V) (e : Ent) => e.p A H v ∧ ∀ a, ¬ e.fp H v a) vs es
def EvA (β : Option Addr) (ta : TA) (Γ : EnvA) (p : List Ent → Prop) : Prop :=
  ∀ (H0 : Hp) (σ : L2.St) (A H : Hp), Rel β H0 Γ σ A H → ∀ Q : List V → Hp → Prop, (∀ vs es B H', Grow β A H B H' → p es → Ents es vs B H' → Q vs H') → ta σ H Q
theorem Ents.grow {β : Option Addr} {es : List Ent} {vs : List V} {A H B H' : Hp} (x : Ents es vs A H) (g : Grow β A H B H') : Ents es vs B H' :=
  Paired.mapP x fun v e ⟨h1, h2⟩ => by
    obtain ⟨q1, q2⟩ := e.st h1 g.le fun a o fa => (h2 a fa).elim
    exact ⟨q1, fun a z => h2 a (q2 a z)⟩

section
variable {β : Option Addr} {Γ : EnvA} {α γ δ : Type} {r : RP α} {r2 : RP γ} {r3 : RP δ} {te ta tb : TE} {p : α → Prop}
theorem Ev.imp {p' : α → Prop} (h : Ev β te Γ r p) (k : ∀ x, p x → p' x) : Ev β te Γ r p' := fun H0 σ A H R Q q => h H0 σ A H R Q fun v x B H' g px rx => q v x B H' g (k x px) rx
theorem EvT.imp {tt : TT} {p p' : Bool → Prop} (h : EvT β tt Γ p) (k : ∀ x, p x → p' x) : EvT β tt Γ p' := fun H0 σ A H R Q q => h H0 σ A H R Q fun b B H' g px => q b B H' g (k b px)
/-- .. as another thing -/
theorem Ev.as {p' : γ → Prop} (h : Ev β te Γ r p) (k : ∀ x, p x → ∃ y, p' y ∧ ∀ A v, r A v x → r2 A v y) : Ev β te Γ r2 p' := fun H0 σ A H R Q q => h H0 σ A H R Q fun v x B H' g px rx =>
  let ⟨y, py, k2⟩ := k x px
  q v y B H' g py (k2 _ _ rx)
theorem ev_var {i : Nat} [Mono r] {x : α} (h : Γ[i]? = some (some (sh r x))) : Ev β (tVar i) Γ r (· = x) := fun H0 σ A H R Q q => by
  obtain ⟨v, h1, h2, _⟩ := R.ent i _ h
  exact ⟨v, h1, q v x A H (Grow.refl R.sub) rfl h2⟩
theorem ev_c {v : V} {x : α} (h : ∀ A, r A v x) : Ev β (tC v) Γ r (· = x) := fun H0 σ A H R Q q => q v x A H (Grow.refl R.sub) rfl (h A)
/-- an operation on values -/
def RV (β : Option Addr) (o : R2) (r : RP α) (r2 : RP γ) (r3 : RP δ) (x : α) (y : γ) (p : δ → Prop) : Prop :=
  ∀ (A H : Hp), Sub A H → ∀ v w, r A v x → r2 A w y → ∀ Q : VK, (∀ u z B H', Grow β A H B H' → p z → r3 B u z → Q u H') → o v w H Q
theorem ev_op [m : Mono r] {o : R2} {p2 : γ → Prop} {p3 : δ → Prop} (ha : Ev β ta Γ r p) (hb : ∀ x, p x → Ev β tb Γ r2 p2) (hr : ∀ x y, p x → p2 y → RV β o r r2 r3 x y p3) : Ev β (tOp o ta tb) Γ r3 p3 := fun H0 σ A H R Q q =>
  ha H0 σ A H R _ fun v x B H1 g px rx => hb x px H0 σ B H1 (R.grow g) _ fun w y C H2 g2 py ry =>
    hr x y px py C H2 g2.sub v w (m.le g2.le rx) ry Q fun u z D H3 g3 pz rz => q u z D H3 ((g.trans g2).trans g3) pz rz
def RU (β : Option Addr) (o : V → Hp → VK → Prop) (r : RP α) (r3 : RP δ) (x : α) (p : δ → Prop) : Prop :=
  ∀ (A H : Hp), Sub A H → ∀ v, r A v x → ∀ Q : VK, (∀ u z B H', Grow β A H B H' → p z → r3 B u z → Q u H') → o v H Q
/-- a call of a known thing on values -/
def RC (β : Option Addr) (o : List V → Hp → VK → Prop) (es : List Ent) (r3 : RP δ) (p : δ → Prop) : Prop :=
  ∀ (A H : Hp), Sub A H → (∀ b, β = some b → A b = none ∧ Box A H b) → ∀ vs, Ents es vs A H → ∀ Q : VK, (∀ u z B H', Grow β A H B H' → p z → r3 B u z → Q u H') → o vs H Q
theorem ea_nil {p : List Ent → Prop} (h : p []) : EvA β tNil Γ p := fun H0 σ A H R Q q => q [] [] A H (Grow.refl R.sub) h .nil
theorem ea_cons [m : Mono r] {tr : TA} {q : List Ent → Prop} (h : Ev β te Γ r p) (hr : ∀ x, p x → EvA β tr Γ fun es => q (sh r x :: es)) : EvA β (tCons te tr) Γ q := fun H0 σ A H R Q k =>
  h H0 σ A H R _ fun v x B H1 g px rx => hr x px H0 σ B H1 (R.grow g) _ fun vs es C H2 g2 pe ee =>
    k (v :: vs) (sh r x :: es) C H2 (g.trans g2) pe (.cons ⟨m.le g2.le rx, fun _ z => z⟩ ee)
/-- the box as an argument -/
theorem ea_box {i : Nat} {b : Addr} {tr : TA} {q : List Ent → Prop} (h : Γ[i]? = some (some (boxE b))) (hr : EvA β tr Γ fun es => q (boxE b :: es)) : EvA β (tCons (tVar i) tr) Γ q := fun H0 σ A H R Q k => by
  obtain ⟨v, h1, h2, _⟩ := R.ent i _ h
  refine ⟨v, h1, hr H0 σ A H R _ fun vs es C H2 g2 pe ee => k (v :: vs) (boxE b :: es) C H2 g2 pe (.cons ⟨h2, fun _ z => z⟩ ee)⟩
theorem ev_cb {o : List V → Hp → VK → Prop} {t : TA} {q : List Ent → Prop} {p3 : δ → Prop} (h : EvA β t Γ q) (hr : ∀ es, q es → RC β o es r3 p3) : Ev β (tCB o t) Γ r3 p3 := fun H0 σ A H R Q k =>
  h H0 σ A H R _ fun vs es B H1 g pe ee => hr es pe B H1 g.sub (fun b hb => (R.grow g).boxOk hb) vs ee Q fun u z C H2 g2 pz rz => k u z C H2 (g.trans g2) pz rz
end

/-! ### promises -/
/-- a def's promise: ι what the arguments are, as: the things, pre, r: what comes back, post -/
def spOf {ι δ : Type} (bx : ι → Option Addr) (args : ι → List Ent) (pre : ι → Prop) (r : RP δ) (post : ι → δ → Prop) : Sp := fun vs H Q _ =>
  ∃ (g : ι) (A : Hp), Sub A H ∧ (∀ b, bx g = some b → A b = none ∧ Box A H b) ∧ Ents (args g) vs A H ∧ pre g ∧ ∀ v x B H', Grow (bx g) A H B H' → post g x → r B v x → Q v H'
section
variable {β : Option Addr} {Γ : EnvA} {ι δ : Type} {args : ι → List Ent} {pre : ι → Prop} {r : RP δ} {post : ι → δ → Prop}
/-- a call of a def that does not know the box -/
theorem ev_call {E : XK} {t : TA} {p : δ → Prop} (h : EvA β t Γ fun es => ∃ g, es = args g ∧ pre g ∧ ∀ x, post g x → p x) : Ev β (tCall (spOf (fun _ => none) args pre r post) [] E t) Γ r p := fun H0 σ A H R Q k =>
  h H0 σ A H R _ fun vs es B H1 g ⟨gi, e1, pg, kp⟩ ee => by
    subst e1
    rw [List.append_nil]
    exact ⟨gi, B, g.sub, (fun _ z => by cases z), ee, pg, fun v x C H2 g2 px rx => k v x C H2 (g.trans g2.free) (kp x px) rx⟩
/-- a call of a def that takes the box -/
theorem ev_callB {bx : ι → Option Addr} {E : XK} {t : TA} {p : δ → Prop} (h : EvA β t Γ fun es => ∃ g, bx g = β ∧ es = args g ∧ pre g ∧ ∀ x, post g x → p x) : Ev β (tCall (spOf bx args pre r post) [] E t) Γ r p := fun H0 σ A H R Q k =>
  h H0 σ A H R _ fun vs es B H1 g ⟨gi, e0, e1, pg, kp⟩ ee => by
    subst e1
    rw [List.append_nil]
    refine ⟨gi, B, g.sub, fun b z => (R.grow g).boxOk (by rw [← e0]; exact z), ee, pg, fun v x C H2 g2 px rx => k v x C H2 (g.trans ?_) (kp x px) rx⟩
    rw [← e0]
    exact g2
end
end Rf
/-! Cal2: new lists, comprehensions, statements, loops. -/
namespace Rf
open PySem L2

/-! ### slots set and forgotten -/
def setsE : EnvA → List Nat → List Ent → EnvA
  | Γ, j :: js, e :: es => setsE (Γ.set j (some e)) js es
  | Γ, _, _ => Γ
def setsV : L2.St → List Nat → List V → L2.St
  | σ, j :: js, v :: vs => setsV (σ.set j (some v)) js vs
  | σ, _, _ => σ
def wipeE (Γ : EnvA) : List Nat → EnvA
  | [] => Γ
  | v :: vs => (wipeE Γ vs).set v none
theorem wipeE_length (Γ : EnvA) : ∀ vs, (wipeE Γ vs).length = Γ.length
  | [] => rfl
  | v :: vs => by unfold wipeE; rw [List.length_set, wipeE_length Γ vs]
theorem wipeE_some {Γ : EnvA} {i : Nat} {x : Ent} : ∀ {vs : List Nat}, (wipeE Γ vs)[i]? = some (some x) → Γ[i]? = some (some x) ∧ i ∉ vs
  | [], h => ⟨h, by simp⟩
  | v :: vs, h => by
    unfold wipeE at h
    by_cases hi : v = i
    · subst hi
      by_cases hv : v < (wipeE Γ vs).length
      · rw [List.getElem?_set_self hv] at h; cases h
      · rw [List.getElem?_eq_none (by simpa using hv)] at h; cases h
    · rw [List.getElem?_set_ne hi] at h
      obtain ⟨h1, h2⟩ := wipeE_some h
      exact ⟨h1, by simp only [List.mem_cons, not_or]; exact ⟨fun e => hi e.symm, h2⟩⟩
theorem wipe_out {σ : L2.St} {i : Nat} : ∀ {vs : List Nat}, i ∉ vs → (wipe σ vs)[i]? = σ[i]?
  | [], _ => rfl
  | v :: vs, h => by
    simp only [List.mem_cons, not_or] at h
    unfold wipe
    rw [List.getElem?_set_ne (fun e => h.1 e.symm), wipe_out h.2]
theorem wipe_in {σ : L2.St} {i : Nat} : ∀ {vs : List Nat}, i ∈ vs → (wipe σ vs)[i]? = if i < σ.length then some none else none
  | [], h => by simp at h
  | v :: vs, h => by
    unfold wipe
    by_cases e : v = i
    · subst e
      rw [List.getElem?_set_self']
      by_cases q : v < σ.length
      · have : v < (wipe σ vs).length := by rw [wipe_length]; exact q
        rw [List.getElem?_eq_getElem this, if_pos q]; rfl
      · rw [List.getElem?_eq_none (by rw [wipe_length]; omega), if_neg q]; rfl
    · rw [List.getElem?_set_ne e]
      exact wipe_in ((List.mem_cons.mp h).resolve_left fun z => e z.symm)
theorem setsV_len : ∀ (js : List Nat) (vs : List V) (σ : L2.St), (setsV σ js vs).length = σ.length
  | [], _, _ => by unfold setsV; rfl
  | _ :: _, [], _ => by unfold setsV; rfl
  | j :: js, v :: vs, σ => by unfold setsV; rw [setsV_len js vs]; simp
theorem setsV_out {i : Nat} : ∀ {js : List Nat} {vs : List V} {σ : L2.St}, i ∉ js → (setsV σ js vs)[i]? = σ[i]?
  | [], _, _, _ => by unfold setsV; rfl
  | _ :: _, [], _, _ => by unfold setsV; rfl
  | j :: js, v :: vs, σ, h => by
    simp only [List.mem_cons, not_or] at h
    unfold setsV
    rw [setsV_out h.2, List.getElem?_set_ne (fun e => h.1 e.symm)]
theorem wipe_sets {σ : L2.St} {js vs : List Nat} {l : List V} (h : ∀ j ∈ js, j ∈ vs) : wipe (setsV (wipe σ vs) js l) vs = wipe σ vs := by
  refine List.ext_getElem? fun i => ?_
  by_cases q : i ∈ vs
  · rw [wipe_in q, wipe_in q, setsV_len, wipe_length]
  · rw [wipe_out q, setsV_out (fun z => q (h i z))]

section
variable {β : Option Addr} {H0 : Hp} {Γ : EnvA} {σ : L2.St} {A H : Hp}
theorem Rel.set (R : Rel β H0 Γ σ A H) (i : Nat) {v : V} {e : Ent} (h : e.p A H v) (hf : ∀ a, e.fp H v a → H0 a = none) (hs : ∀ a, e.fp H v a → ∀ (j : Nat) (e' : Ent) (v' : V), j ≠ i → Γ[j]? = some (some e') → σ[j]? = some (some v') → ¬ e'.fp H v' a) :
    Rel β H0 (Γ.set i (some e)) (σ.set i (some v)) A H := by
  have hl := R.len
  have G : ∀ {j : Nat} {e' : Ent}, (Γ.set i (some e))[j]? = some (some e') → (j = i ∧ e' = e ∧ (σ.set i (some v))[j]? = some (some v)) ∨ (j ≠ i ∧ Γ[j]? = some (some e') ∧ (σ.set i (some v))[j]? = σ[j]?) := by
    intro j e' hj
    by_cases q : i = j
    · subst q
      have hi : i < Γ.length := by
        by_cases z : i < Γ.length
        · exact z
        · rw [List.getElem?_eq_none (by rw [List.length_set]; omega)] at hj; cases hj
      rw [List.getElem?_set_self hi] at hj
      exact .inl ⟨rfl, (Option.some.inj (Option.some.inj hj)).symm, List.getElem?_set_self (by omega)⟩
    · rw [List.getElem?_set_ne q] at hj
      exact .inr ⟨fun z => q z.symm, hj, List.getElem?_set_ne q⟩
  refine ⟨R.sub, by rw [List.length_set, List.length_set]; exact hl, R.h0, R.bx, fun j e' hj => ?_, fun j k e1 e2 v1 v2 a n h1 h2 h3 h4 h5 h6 => ?_⟩
  · rcases G hj with ⟨_, rfl, q⟩ | ⟨_, q1, q2⟩
    · exact ⟨v, q, h, hf⟩
    · obtain ⟨u, g1, g2⟩ := R.ent j e' q1
      exact ⟨u, by rw [q2]; exact g1, g2⟩
  · rcases G h1 with ⟨j1, rfl, q⟩ | ⟨j1, q1, q2⟩
    · rw [h3] at q; cases q
      rcases G h2 with ⟨k1, _, _⟩ | ⟨k1, g1, g2⟩
      · exact n (j1.trans k1.symm)
      · rw [g2] at h4
        exact hs a h5 k e2 v2 k1 g1 h4 h6
    · rw [q2] at h3
      rcases G h2 with ⟨k1, rfl, g⟩ | ⟨k1, g1, g2⟩
      · rw [h4] at g; cases g
        exact hs a h6 j e1 v1 j1 q1 h3 h5
      · rw [g2] at h4
        exact R.sep j k e1 e2 v1 v2 a n q1 g1 h3 h4 h5 h6
/-- a thing that owns nothing -/
theorem Rel.setF (R : Rel β H0 Γ σ A H) (i : Nat) {v : V} {e : Ent} (h : e.p A H v) (hf : ∀ a, ¬ e.fp H v a) : Rel β H0 (Γ.set i (some e)) (σ.set i (some v)) A H :=
  R.set i h (fun a z => (hf a z).elim) fun a z => (hf a z).elim
theorem Rel.sets : ∀ {js : List Nat} {es : List Ent} {vs : List V} {Γ : EnvA} {σ : L2.St}, Rel β H0 Γ σ A H → Ents es vs A H → Rel β H0 (setsE Γ js es) (setsV σ js vs) A H
  | [], _, _, _, _, R, _ => by unfold setsE setsV; exact R
  | _ :: _, _, _, _, _, R, .nil => by unfold setsE setsV; exact R
  | j :: js, _, _, _, _, R, .cons ⟨h1, h2⟩ t => by
    unfold setsE setsV
    exact Rel.sets (R.setF j h1 h2) t
/-- less may be known -/
theorem Rel.less (R : Rel β H0 Γ σ A H) {Γ' : EnvA} {σ' : L2.St} (hl : Γ'.length = Γ.length) (hl' : σ'.length = σ.length) (h : ∀ (i : Nat) (e : Ent), Γ'[i]? = some (some e) → Γ[i]? = some (some e) ∧ σ'[i]? = σ[i]?) : Rel β H0 Γ' σ' A H :=
  ⟨R.sub, by rw [hl, hl', R.len], R.h0, R.bx, fun i e he => by
    obtain ⟨h1, h2⟩ := h i e he
    rw [h2]; exact R.ent i e h1, fun i j e e' v v' a n h1 h2 h3 h4 h5 => by
    obtain ⟨g1, g2⟩ := h i e h1
    obtain ⟨k1, k2⟩ := h j e' h2
    rw [g2] at h3; rw [k2] at h4
    exact R.sep i j e e' v v' a n g1 k1 h3 h4 h5⟩
theorem Rel.wipe (R : Rel β H0 Γ σ A H) (vs : List Nat) : Rel β H0 (wipeE Γ vs) (wipe σ vs) A H :=
  R.less (wipeE_length Γ vs) (wipe_length σ vs) fun i e he => let ⟨h1, h2⟩ := wipeE_some he; ⟨h1, wipe_out h2⟩
end

/-! ### new lists -/
def rL {α : Type} (r : RP α) : RP (List α) := fun A v xs => ∃ (l : Addr) (vs : List V), v = .ref l ∧ A l = some (.lst vs) ∧ Paired (r A) vs xs
instance {α : Type} (r : RP α) [m : Mono r] : Mono (rL r) := ⟨fun l ⟨a, vs, h1, h2, h3⟩ => ⟨a, vs, h1, l.lst h2, Paired.mapP h3 fun _ _ z => m.le l z⟩⟩
/-- te gives a new list that is not in the base -/
def EvN (β : Option Addr) (te : TE) (Γ : EnvA) {α : Type} (r : RP α) (p : List α → Prop) : Prop :=
  ∀ (H0 : Hp) (σ : L2.St) (A H : Hp), Rel β H0 Γ σ A H → ∀ Q : VK, (∀ l vs xs B H', Grow β A H B H' → H l = none → B l = none → H' l = some (.lst vs) → p xs → Paired (r B) vs xs → Q (.ref l) H') → te σ H Q
/-- what one owns goes into the base -/
theorem Grow.share {β : Option Addr} {A H B H' : Hp} (g : Grow β A H B H') (bo : ∀ b, β = some b → A b = none ∧ Box A H b) {l : Addr} {o : HO} (h0 : H l = none) (h2 : H' l = some o) (hB : B l = none) : Grow β A H (upd B l o) H' := by
  refine ⟨g.le.trans (le_new hB), fun a u e => ?_, fun a u n h1 hh => ?_, fun b n h1 hh => ?_⟩
  · by_cases q : a = l
    · subst q; rw [upd_same] at e; cases e; exact h2
    · rw [upd_ne q] at e; exact g.sub a u e
  · obtain ⟨q1, q2⟩ := g.own a u n h1 hh
    exact ⟨by rw [upd_ne (fun z => by rw [z, h0] at hh; cases hh)]; exact q1, q2⟩
  · obtain ⟨q1, q2⟩ := g.box b n h1 hh
    refine ⟨?_, q2.le (le_new hB)⟩
    rw [upd_ne (fun z => by
      obtain ⟨_, _, _, e1, _⟩ := hh
      rw [z, h0] at e1; cases e1)]
    exact q1
section
variable {β : Option Addr} {Γ : EnvA} {α γ δ : Type} {r : RP α} {te ta tb : TE}
theorem EvN.ev [m : Mono r] {p : List α → Prop} (h : EvN β te Γ r p) : Ev β te Γ (rL r) p := fun H0 σ A H R Q k =>
  h H0 σ A H R Q fun l vs xs B H' g h0 hB hl px pr => k (.ref l) xs (upd B l (.lst vs)) H' (g.share (fun b hb => R.boxOk hb) h0 hl hB) px
    ⟨l, vs, rfl, upd_same, Paired.mapP pr fun _ _ z => m.le (le_new hB) z⟩
theorem EvN.imp {p p' : List α → Prop} (h : EvN β te Γ r p) (k : ∀ x, p x → p' x) : EvN β te Γ r p' := fun H0 σ A H R Q q => h H0 σ A H R Q fun l vs xs B H' g h0 hB hl px pr => q l vs xs B H' g h0 hB hl (k xs px) pr

/-! ### what is walked -/
/-- J takes the turns of L, each turn's things go to the slots js; what is walked stands in the base B -/
structure Walks (J : It) (g : TG) (js : List Nat) (L : List (List Ent)) (B : Hp) : Prop where
  go : ∀ (i : Nat) (C H : Hp), i < L.length → Le B C → Sub C H → J.go i H
  stop : ∀ (C H : Hp), Le B C → Sub C H → J.stop L.length H
  yld : ∀ (i : Nat) (es : List Ent) (C H : Hp) (x : V) (H' : Hp), L[i]? = some es → Le B C → Sub C H → J.yld i H x H' →
    ∃ C1 : Hp, Grow none C H C1 H' ∧ ∀ (σ : L2.St) (Q : L2.St → Hp → Prop), (∀ vs C2 H2, Grow none C1 H' C2 H2 → Ents es vs C2 H2 → Q (setsV σ js vs) H2) → g x σ H' Q
def EvI (β : Option Addr) (wi : TI) (g : TG) (Γ : EnvA) (js : List Nat) (e : α → List Ent) (p : List α → Prop) : Prop :=
  ∀ (H0 : Hp) (σ : L2.St) (A H : Hp), Rel β H0 Γ σ A H → ∀ R : It → Hp → Prop, (∀ J xs B H1, Grow β A H B H1 → p xs → Walks J g js (xs.map e) B → R J H1) → wi σ H R
theorem paired_snoc {F : α → γ → Prop} {l₁ : List α} {l₂ : List γ} {a : α} {b : γ} (h : Paired F l₁ l₂) (hab : F a b) : Paired F (l₁ ++ [a]) (l₂ ++ [b]) := Paired.snoc h hab
theorem take_succ' {xs : List α} {i : Nat} {x : α} (h : xs[i]? = some x) : xs.take (i + 1) = xs.take i ++ [x] := by rw [List.take_add_one, h]; rfl
/-- a comprehension -/
theorem en_lc [m : Mono r] {wi : TI} {g : TG} {tt : TT} {vs js : List Nat} {e : γ → List Ent} {p : List γ → Prop} {b : γ → Bool} {q : γ → α → Prop} (hi : EvI β wi g Γ js e p) (hj : ∀ j ∈ js, j ∈ vs) (hz : ∀ xs, p xs → xs.length < 16777216)
    (ht : ∀ xs, p xs → ∀ x ∈ xs, EvT β tt (setsE (wipeE Γ vs) js (e x)) (· = b x)) (he : ∀ xs, p xs → ∀ x ∈ xs, b x = true → Ev β te (setsE (wipeE Γ vs) js (e x)) r (q x)) :
    EvN β (tLc wi g tt te vs) Γ r fun ys => ∃ xs, p xs ∧ Paired q (xs.filter b) ys := fun H0 σ A H R Q k => by
  refine hi H0 σ A H R _ fun J xs B H1 g1 px wk => ?_
  intro D hD
  have hBD : B D = none := g1.sub.no hD
  have hHD : H D = none := by
    cases z : H D with
    | none => rfl
    | some o =>
      exfalso
      cases q2 : A D with
      | some u => have := g1.le.no hBD; rw [q2] at this; cases this
      | none =>
        by_cases hb : β = some D
        · obtain ⟨h1, h2⟩ := R.boxOk hb
          obtain ⟨_, _, _, _, h3, _⟩ := g1.box D hb h1 h2
          rw [hD] at h3; cases h3
        · rw [(g1.own D o hb q2 z).2] at hD; cases hD
  have nb : β ≠ some D := fun z => by
    obtain ⟨_, _, _, _, e1, _⟩ := R.boxOk z
    rw [hHD] at e1; cases e1
  have hsz := hz xs px
  let Pv : Nat → Hp → Prop := fun i H' => ∃ (C : Hp) (ws : List V) (ys : List α), Grow β A H C H' ∧ Le B C ∧ C D = none ∧ H' D = some (.lst ws) ∧ Paired (r C) ws ys ∧ Paired q ((xs.take i).filter b) ys
  have len : (xs.map e).length = xs.length := List.length_map _
  have w : Walk J xs.length (fun H' => ∃ C, Le B C ∧ Sub C H') (fun i H' x H'' => ∀ (C : Hp) (y : γ), xs[i]? = some y → Le B C → Sub C H' → ∃ C1 : Hp, Grow none C H' C1 H'' ∧ ∀ (σ : L2.St) (Q : L2.St → Hp → Prop), (∀ vs C2 H2, Grow none C1 H'' C2 H2 → Ents (e y) vs C2 H2 → Q (setsV σ js vs) H2) → g x σ H'' Q) :=
    ⟨fun i H' hi ⟨C, h1, h2⟩ => wk.go i C H' (by rw [len]; exact hi) h1 h2, fun H' ⟨C, h1, h2⟩ => by rw [← len]; exact wk.stop C H' h1 h2,
      fun i H' x H'' hi _ y C z hx h1 h2 => wk.yld i (e z) C H' x H'' (by rw [List.getElem?_map, hx]; rfl) h1 h2 y⟩
  refine lc_it w Pv ⟨B, [], [], g1.trans (Grow.newOwn g1.sub hD), Le.refl, hBD, upd_same, .nil, by rw [List.take_zero]; exact .nil⟩ (fun i H' _ ⟨C, _, _, h1, h2, _⟩ => ⟨C, h2, h1.sub⟩) (fun i x H' H'' hi ⟨C, ws, ys, h1, h2, h3, h4, h5, h6⟩ hy => ?_)
    (fun H' ⟨C, ws, ys, h1, h2, h3, h4, h5, h6⟩ => ?_)
  · obtain ⟨y, hxy⟩ : ∃ y, xs[i]? = some y := ⟨xs[i], List.getElem?_eq_getElem hi⟩
    have hm : y ∈ xs := List.mem_of_getElem? hxy
    obtain ⟨C1, k1, k2⟩ := hy C y hxy h2 h1.sub
    refine k2 (L2.wipe σ vs) _ fun l C2 H2 k3 k4 => ⟨wipe_sets hj, ?_⟩
    have G2 : Grow β A H C2 H2 := h1.trans (k1.trans k3).free
    have R2 : Rel β H0 (setsE (wipeE Γ vs) js (e y)) (setsV (L2.wipe σ vs) js l) C2 H2 := ((R.grow G2).wipe vs).sets k4
    have D2 := (k1.trans k3).own D _ (fun z => nomatch z) h3 h4
    refine ht xs px y hm H0 _ C2 H2 R2 _ fun c C3 H3 k5 ec => ?_
    have D3 := k5.own D _ nb D2.1 D2.2
    have L3 : Le B C3 := h2.trans ((k1.trans k3).le.trans k5.le)
    have P3 : Paired (r C3) ws ys := Paired.mapP h5 fun _ _ z => m.le ((k1.trans k3).le.trans k5.le) z
    cases c with
    | false =>
      rw [if_neg Bool.false_ne_true]
      refine ⟨C3, ws, ys, G2.trans k5, L3, D3.1, D3.2, P3, ?_⟩
      rw [take_succ' hxy, List.filter_append, List.filter_cons, if_neg (by rw [← ec]; decide)]
      show Paired q (_ ++ []) ys
      rw [List.append_nil]
      exact h6
    | true =>
      rw [if_pos rfl]
      refine he xs px y hm ec.symm H0 _ C3 H3 (R2.grow k5) _ fun v z C4 H4 k6 pz rz => ?_
      have D4 := k6.own D _ nb D3.1 D3.2
      have lw : ws.length ≤ i := by
        have e1 : ws.length = ys.length := Paired.length h5
        have e2 : ((xs.take i).filter b).length = ys.length := Paired.length h6
        have e3 := List.length_filter_le b (xs.take i)
        have e4 : (xs.take i).length ≤ i := List.length_take_le _ _
        omega
      refine ⟨ws, D4.2, by rw [PySem.sizeLine_eq]; omega, C4, ws ++ [v], ys ++ [z], ?_, L3.trans k6.le, D4.1, upd_same, paired_snoc (Paired.mapP P3 fun _ _ z => m.le k6.le z) rz, ?_⟩
      · have G4 : Grow β A H C4 H4 := (G2.trans k5).trans k6
        refine ⟨G4.le, fun a u ea => ?_, fun a u n q1 q2 => ?_, fun b' n q1 q2 => ?_⟩
        · rw [upd_ne (fun z => by rw [z, D4.1] at ea; cases ea)]; exact G4.sub a u ea
        · have := G4.own a u n q1 q2
          rw [upd_ne (fun z => by rw [z, hHD] at q2; cases q2)]; exact this
        · obtain ⟨z1, r1, xs1, n1, z2, z3⟩ := G4.box b' n q1 q2
          exact ⟨z1, r1, xs1, n1, by rw [upd_ne (fun z => nb (by rw [n, z]))]; exact z2, z3⟩
      · rw [take_succ' hxy, List.filter_append, List.filter_cons, if_pos ec.symm]
        exact paired_snoc h6 pz
  · rw [List.take_length] at h6
    exact k D ws ys C H' h1 hHD h3 h4 ⟨xs, px, h6⟩ h5
end
end Rf
/-! Cal3: statements. -/
namespace Rf
open PySem L2

/-- a def entered: the box it knows, the base and the heap at its entry; what the base holds besides -/
structure Fr where
  bx : Option Addr
  A0 : Hp
  H0 : Hp
  L : Hp
def S (F : Fr) (Γ : EnvA) (σ : L2.St) (H : Hp) : Prop := ∃ A, Le F.L A ∧ Grow F.bx F.A0 F.H0 A H ∧ Rel F.bx F.H0 Γ σ A H
def SS (F : Fr) (P : EnvA → Prop) (σ : L2.St) (H : Hp) : Prop := ∃ Γ, P Γ ∧ S F Γ σ H
/-- from what Γ says the code t reaches its ends D -/
def Tr (F : Fr) (Γ : EnvA) (t : TS) (D : Ends) : Prop := ∀ σ H, S F Γ σ H → t D σ H
/-- a value of which a def's caller is to learn p may be handed back -/
def Rt {δ : Type} (F : Fr) (r : RP δ) (p : δ → Prop) (Q : VK) : Prop := ∀ v x B H', Grow F.bx F.A0 F.H0 B H' → p x → r B v x → Q v H'
/-- the base holds B too -/
def Fr.at (F : Fr) (B : Hp) : Fr := { F with L := B }
/-- less is said -/
def lss : EnvA → EnvA → Prop
  | [], [] => True
  | none :: a, _ :: b => lss a b
  | some e :: a, x :: b => x = some e ∧ lss a b
  | _, _ => False
theorem lss_len : ∀ {a b : EnvA}, lss a b → a.length = b.length
  | [], [], _ => rfl
  | [], _ :: _, h => by cases h
  | none :: a, [], h => by cases h
  | some e :: a, [], h => by cases h
  | none :: a, x :: b, h => by
    have : lss a b := h
    simp [lss_len this]
  | some e :: a, x :: b, h => by
    obtain ⟨_, h⟩ : x = some e ∧ lss a b := h
    simp [lss_len h]
theorem lss_get : ∀ {a b : EnvA}, lss a b → ∀ (i : Nat) (e : Ent), a[i]? = some (some e) → b[i]? = some (some e)
  | [], [], _, i, e, h => by simp at h
  | [], _ :: _, h, _, _, _ => by cases h
  | none :: a, [], h, _, _, _ => by cases h
  | some e :: a, [], h, _, _, _ => by cases h
  | none :: a, x :: b, h, 0, e, q => by simp at q
  | none :: a, x :: b, h, i + 1, e, q => by
    have h' : lss a b := h
    simpa using lss_get h' i e (by simpa using q)
  | some e0 :: a, x :: b, h, 0, e, q => by
    obtain ⟨h1, _⟩ : x = some e0 ∧ lss a b := h
    simp only [List.getElem?_cons_zero] at q ⊢
    rw [h1]; exact q
  | some e0 :: a, x :: b, h, i + 1, e, q => by
    obtain ⟨_, h'⟩ : x = some e0 ∧ lss a b := h
    simpa using lss_get h' i e (by simpa using q)
theorem S.less {F : Fr} {Γ Γ' : EnvA} {σ : L2.St} {H : Hp} (s : S F Γ σ H) (h : lss Γ' Γ) : S F Γ' σ H :=
  let ⟨A, l, g, R⟩ := s
  ⟨A, l, g, R.less (lss_len h) rfl fun i e q => ⟨lss_get h i e q, rfl⟩⟩
/-- an object that one owns is changed -/
theorem S.chg {F : Fr} {Γ : EnvA} {σ : L2.St} {A H : Hp} {i : Nat} {e e' : Ent} {v : V} {l : Addr} {o : HO} (le : Le F.L A) (g : Grow F.bx F.A0 F.H0 A H) (R : Rel F.bx F.H0 Γ σ A H) (he : Γ[i]? = some (some e)) (hv : σ[i]? = some (some v)) (hl : e.fp H v l)
    (k : e'.p A (upd H l o) v) (kf : ∀ a, e'.fp (upd H l o) v a → e.fp H v a) : S F (Γ.set i (some e')) σ (upd H l o) := by
  obtain ⟨v', q1, q2, q3⟩ := R.ent i e he
  rw [hv] at q1; cases q1
  obtain ⟨hAl, u, hu⟩ := e.ow q2 hl
  have hl0 := q3 l hl
  have nb : ∀ b, F.bx = some b → b ≠ l := fun b hb z => by
    obtain ⟨_, _, o', q⟩ := R.bx b hb
    rw [z, hl0] at q; cases q
  have bxk : ∀ B, ∀ b, b ≠ l → Box B H b → Box B (upd H l o) b := fun B b n h => by
    obtain ⟨r, xs, n1, h1, h2⟩ := h
    exact ⟨r, xs, n1, by rw [upd_ne n]; exact h1, h2⟩
  refine ⟨A, le, ⟨g.le, fun a w ha => ?_, fun a w n h1 h2 => ?_, fun b n h1 h2 => ?_⟩, ?_⟩
  · rw [upd_ne (fun z => by rw [z, hAl] at ha; cases ha)]; exact g.sub a w ha
  · rw [upd_ne (fun z => by rw [z, hl0] at h2; cases h2)]; exact g.own a w n h1 h2
  · obtain ⟨z1, z2⟩ := g.box b n h1 h2
    exact ⟨z1, bxk A b (nb b n) z2⟩
  · have other : ∀ (j : Nat) (d : Ent) (w : V), j ≠ i → Γ[j]? = some (some d) → σ[j]? = some (some w) → d.p A (upd H l o) w ∧ ∀ a, d.fp (upd H l o) w a → d.fp H w a := fun j d w n h1 h2 => by
      obtain ⟨w', z1, z2, z3⟩ := R.ent j d h1
      rw [h2] at z1; cases z1
      refine d.st z2 Le.refl fun a u' fa ha => ⟨(d.ow z2 fa).1, ?_⟩
      rw [upd_ne (fun z => R.sep i j e d v w l (fun q => n q.symm) he h1 hv h2 hl (by rw [← z]; exact fa))]
      exact ha
    have hi : i < Γ.length := by
      by_cases z : i < Γ.length
      · exact z
      · rw [List.getElem?_eq_none (by omega)] at he; cases he
    have G : ∀ {j : Nat} {d : Ent}, (Γ.set i (some e'))[j]? = some (some d) → (j = i ∧ d = e') ∨ (j ≠ i ∧ Γ[j]? = some (some d)) := by
      intro j d hj
      by_cases q : i = j
      · subst q
        rw [List.getElem?_set_self hi] at hj
        exact .inl ⟨rfl, (Option.some.inj (Option.some.inj hj)).symm⟩
      · rw [List.getElem?_set_ne q] at hj
        exact .inr ⟨fun z => q z.symm, hj⟩
    refine ⟨fun a w ha => ?_, by rw [List.length_set]; exact R.len, fun a z => ?_, fun b hb => ?_, fun j d hj => ?_, fun j m d d' w w' a n h1 h2 h3 h4 h5 h6 => ?_⟩
    · rw [upd_ne (fun z => by rw [z, hAl] at ha; cases ha)]; exact R.sub a w ha
    · by_cases q : a = l
      · rw [q]; exact hl0
      · rw [upd_ne q] at z; exact R.h0 a z
    · obtain ⟨z1, z2, z3⟩ := R.bx b hb
      exact ⟨z1, bxk A b (nb b hb) z2, z3⟩
    · rcases G hj with ⟨rfl, rfl⟩ | ⟨n, q⟩
      · exact ⟨v, hv, k, fun a z => q3 a (kf a z)⟩
      · obtain ⟨w, z1, z2, z3⟩ := R.ent j d q
        obtain ⟨y1, y2⟩ := other j d w n q z1
        exact ⟨w, z1, y1, fun a z => z3 a (y2 a z)⟩
    · rcases G h1 with ⟨rfl, rfl⟩ | ⟨n1, q⟩
      · rw [hv] at h3; cases h3
        rcases G h2 with ⟨rfl, rfl⟩ | ⟨n2, q2⟩
        · exact n rfl
        · exact R.sep j m e d' v w' a n he q2 hv h4 (kf a h5) ((other m d' w' n2 q2 h4).2 a h6)
      · rcases G h2 with ⟨rfl, rfl⟩ | ⟨n2, q2⟩
        · rw [hv] at h4; cases h4
          exact R.sep j m d e w v a n q he h3 hv ((other j d w n1 q h3).2 a h5) (kf a h6)
        · exact R.sep j m d d' w w' a n q q2 h3 h4 ((other j d w n1 q h3).2 a h5) ((other m d' w' n2 q2 h4).2 a h6)

section
variable {F : Fr} {Γ : EnvA} {D : Ends} {α γ δ : Type} {r : RP α} {te ta tb : TE} {t u w : TS} {p : α → Prop} {K : PySem.W.Frag}
theorem tr_last (h : Tr F Γ (tSeq t tNext) D) : Tr F Γ t D := h
theorem tr_assoc (h : Tr F Γ (tSeq t (tSeq u w)) D) : Tr F Γ (tSeq (tSeq t u) w) D := h
theorem tr_nil (h : Tr F Γ u D) : Tr F Γ (tSeq tNext u) D := h
theorem tr_less {Γ' : EnvA} (h : lss Γ' Γ) (k : Tr F Γ' t D) : Tr F Γ t D := fun σ H s => k σ H (s.less h)
theorem tr_asg {i : Nat} [m : Mono r] (h : Ev F.bx te Γ r p) (k : ∀ x, p x → Tr F (Γ.set i (some (sh r x))) u D) : Tr F Γ (tSeq (tAsg te (gName i)) u) D := fun σ H ⟨A, l, g, R⟩ =>
  h F.H0 σ A H R _ fun v x B H' g2 px rx => k x px _ _ ⟨B, l.trans g2.le, g.trans g2, (R.grow g2).setF i rx fun _ z => z⟩
theorem tr_drop (h : Ev F.bx te Γ r p) (k : ∀ x, p x → Tr F Γ u D) : Tr F Γ (tSeq (tDrop te) u) D := fun σ H ⟨A, l, g, R⟩ =>
  h F.H0 σ A H R _ fun v x B H' g2 px rx => k x px _ _ ⟨B, l.trans g2.le, g.trans g2, R.grow g2⟩
/-- something new of one's own at a slot -/
theorem Rel.setNew {β : Option Addr} {H0 : Hp} {σ : L2.St} {A H B H' : Hp} (R : Rel β H0 Γ σ A H) (g2 : Grow β A H B H') (i : Nat) {l : Addr} {e : Ent} (h0 : H l = none) (he : e.p B H' (.ref l)) (hf : ∀ a, e.fp H' (.ref l) a → a = l) :
    Rel β H0 (Γ.set i (some e)) (σ.set i (some (.ref l))) B H' :=
  (R.grow g2).set i (v := .ref l) (e := e) he (fun a z => by rw [hf a z]; exact R.h0 l h0) fun a z j e' v' n h1 h2 h3 => by
    have z' := hf a z
    subst z'
    obtain ⟨v2, q1, q2, _⟩ := R.ent j e' h1
    rw [h2] at q1; cases q1
    have q4 := e'.st q2 g2.le fun a o fa ha => g2.own a o (fun z => by
      obtain ⟨_, _, o', q⟩ := R.bx a z
      obtain ⟨w, z1, _, z3⟩ := R.ent j e' h1
      rw [h2] at z1; cases z1
      rw [z3 a fa] at q; cases q) (e'.ow q2 fa).1 ha
    obtain ⟨_, o, q5⟩ := e'.ow q2 (q4.2 a h3)
    rw [h0] at q5; cases q5
/-- a new list that one keeps for oneself -/
theorem tr_asgN {i : Nat} [m : Mono r] {q : List α → Prop} (h : EvN F.bx te Γ r q) (k : ∀ xs, q xs → Tr F (Γ.set i (some (ownL r xs))) u D) : Tr F Γ (tSeq (tAsg te (gName i)) u) D := fun σ H ⟨A, le, g, R⟩ =>
  h F.H0 σ A H R _ fun l vs xs B H' g2 h0 hB hl px pr => k xs px _ _ ⟨B, le.trans g2.le, g.trans g2, R.setNew g2 i (e := ownL r xs) h0 ⟨l, vs, rfl, hB, hl, pr⟩ fun a z => by
    have z' : V.ref l = .ref a := z
    cases z'; rfl⟩
theorem en_nil {β : Option Addr} : EvN β (tLst tNil) Γ r (· = []) := fun H0 σ A H R Q k => ⟨Nat.zero_le _, fun l hl => k l [] [] A _ (Grow.newOwn R.sub hl) hl (R.sub.no hl) upd_same rfl .nil⟩
theorem tr_if {tt : TT} {q : Bool → Prop} (h : EvT F.bx tt Γ q) (k1 : q true → Tr F Γ (tSeq t w) D) (k2 : q false → Tr F Γ (tSeq u w) D) : Tr F Γ (tSeq (tIfS tt t u) w) D := fun σ H ⟨A, l, g, R⟩ =>
  h F.H0 σ A H R _ fun b B H' g2 qb => by
    cases b with
    | true => exact k1 qb σ H' ⟨B, l.trans g2.le, g.trans g2, R.grow g2⟩
    | false => exact k2 qb σ H' ⟨B, l.trans g2.le, g.trans g2, R.grow g2⟩
/-- .. the ways join again (the derivation by Evl.pss_cut) -/
theorem tr_cut (P : EnvA → Prop) (h1 : Tr F Γ t { D with nx := SS F P }) (h2 : ∀ Γ', P Γ' → Tr F Γ' u D) : Tr F Γ (Evl.tCut t u) D := fun σ H s =>
  ⟨SS F P, h1 σ H s, fun σ' H' ⟨Γ', p, s'⟩ => h2 Γ' p σ' H' s'⟩
theorem tr_ret {p : α → Prop} {Q : α → Prop} (h : Ev F.bx te Γ r p) (hQ : Rt F r Q D.rt) (k : ∀ x, p x → Q x) : Tr F Γ (tRet te) D := fun σ H ⟨A, _, g, R⟩ =>
  h F.H0 σ A H R _ fun v x B H' g2 px rx => hQ v x B H' (g.trans g2) (k x px) rx
theorem tr_retS {p : α → Prop} {Q : α → Prop} (h : Ev F.bx te Γ r p) (hQ : Rt F r Q D.rt) (k : ∀ x, p x → Q x) : Tr F Γ (tSeq (tRet te) u) D := fun σ H ⟨A, _, g, R⟩ =>
  h F.H0 σ A H R _ fun v x B H' g2 px rx => hQ v x B H' (g.trans g2) (k x px) rx
theorem tr_next {P : EnvA → Prop} {Γ' : EnvA} (hD : D.nx = SS F P) (l : lss Γ' Γ) (h : P Γ') : Tr F Γ tNext D := fun σ H s => by
  show D.nx σ H
  rw [hD]
  exact ⟨Γ', h, s.less l⟩
/-- xs.append(e) -/
theorem tr_append {i : Nat} [m : Mono r] {xs : List α} (hΓ : Γ[i]? = some (some (ownL r xs))) (h : Ev F.bx te Γ r p) (hz : xs.length < 16777216) (k : ∀ x, p x → Tr F (Γ.set i (some (ownL r (xs ++ [x])))) u D) :
    Tr F Γ (tSeq (tDrop (tBM K "list" rAppend (tVar i) (tCons te tNil))) u) D := fun σ H ⟨A, le, g, R⟩ => by
  obtain ⟨v, hv, ⟨l, vs, rfl, h1, h2, h3⟩, h4⟩ := R.ent i _ hΓ
  refine ⟨_, hv, .inl ⟨rfl, _, SqL.of h2⟩, h F.H0 σ A H R _ fun y x B H' g2 px rx => ?_⟩
  have nb : F.bx ≠ some l := fun z => by
    obtain ⟨_, _, o', q⟩ := R.bx l z
    rw [h4 l rfl] at q; cases q
  obtain ⟨q1, q2⟩ := g2.own l _ nb h1 h2
  have hl : vs.length = xs.length := Paired.length h3
  refine ⟨l, vs, y, rfl, rfl, q2, by rw [PySem.sizeLine_eq]; omega, k x px _ _ ?_⟩
  have R2 := R.grow g2
  obtain ⟨v2, w1, ⟨l2, vs2, e2, w2, w3, w4⟩, _⟩ := R2.ent i _ hΓ
  rw [hv] at w1; cases w1; cases e2
  rw [q2] at w3; cases w3
  exact S.chg (e := ownL r xs) (v := .ref l) (le.trans g2.le) (g.trans g2) R2 hΓ hv rfl ⟨l, _, rfl, w2, upd_same, paired_snoc w4 rx⟩ fun _ z => z
theorem paired_set {α γ : Type} {F : α → γ → Prop} {a : α} {b : γ} (h : F a b) : ∀ {l₁ : List α} {l₂ : List γ} (j : Nat), Paired F l₁ l₂ → Paired F (l₁.set j a) (l₂.set j b)
  | _, _, _, .nil => .nil
  | _, _, 0, .cons _ t => .cons h t
  | _, _, j + 1, .cons q t => .cons q (paired_set h j t)
theorem paired_app {α γ : Type} {F : α → γ → Prop} : ∀ {l₁ m₁ : List α} {l₂ m₂ : List γ}, Paired F l₁ l₂ → Paired F m₁ m₂ → Paired F (l₁ ++ m₁) (l₂ ++ m₂)
  | _, _, _, _, .nil, s => s
  | _, _, _, _, .cons q t, s => .cons q (paired_app t s)
theorem paired_at {α γ : Type} {F : α → γ → Prop} : ∀ {l₁ : List α} {l₂ : List γ} {j : Nat} {y : γ}, Paired F l₁ l₂ → l₂[j]? = some y → ∃ x, l₁[j]? = some x ∧ F x y
  | _, _, _, _, .nil, h => by simp at h
  | _, _, 0, _, .cons q _, h => by
    cases (Option.some.inj h)
    exact ⟨_, rfl, q⟩
  | _, _, j + 1, _, .cons _ t, h => paired_at (j := j) t h
/-- xs[j] = e -/
theorem tr_setL {i : Nat} {ti : TE} [m : Mono r] {xs : List α} {j : Nat} (hΓ : Γ[i]? = some (some (ownL r xs))) (h : Ev F.bx te Γ r p) (hi : ∀ x, p x → Ev F.bx ti Γ (fun _ v (n : Int) => v = V.int n) (· = (j : Int))) (hj : j < xs.length)
    (k : ∀ x, p x → Tr F (Γ.set i (some (ownL r (xs.set j x)))) u D) : Tr F Γ (tSeq (tAsg te (gSub (tVar i) ti rSetL)) u) D := fun σ H ⟨A, le, g, R⟩ => by
  refine h F.H0 σ A H R _ fun y x B H' g2 px rx => ?_
  have R2 := R.grow g2
  obtain ⟨v, hv, _, _⟩ := R2.ent i _ hΓ
  refine ⟨v, hv, hi x px F.H0 σ B H' R2 _ fun z n C H3 g3 ez hz => ?_⟩
  subst ez
  cases hz
  have R3 := R2.grow g3
  obtain ⟨v', hv', ⟨l, vs, rfl, h1, h2, h3⟩, h4⟩ := R3.ent i _ hΓ
  rw [hv] at hv'; cases hv'
  have hl : vs.length = xs.length := Paired.length h3
  refine ⟨l, vs, (j : Int), j, rfl, rfl, h2, Evl.ixN_nat (by omega), k x px _ _ ?_⟩
  exact S.chg (e := ownL r xs) (v := .ref l) ((le.trans g2.le).trans g3.le) ((g.trans g2).trans g3) R3 hΓ hv rfl ⟨l, _, rfl, h1, upd_same, paired_set (m.le g3.le rx) j h3⟩ fun _ z => z
/-- xs.extend(e) -/
theorem tr_extend {i : Nat} [m : Mono r] {xs : List α} {q : List α → Prop} (hΓ : Γ[i]? = some (some (ownL r xs))) (h : Ev F.bx te Γ (rL r) q) (hz : ∀ ys, q ys → xs.length + ys.length ≤ 16777216) (k : ∀ ys, q ys → Tr F (Γ.set i (some (ownL r (xs ++ ys)))) u D) :
    Tr F Γ (tSeq (tDrop (tBM K "list" rExtend (tVar i) (tCons te tNil))) u) D := fun σ H ⟨A, le, g, R⟩ => by
  obtain ⟨v, hv, ⟨l, vs, rfl, h1, h2, h3⟩, h4⟩ := R.ent i _ hΓ
  refine ⟨_, hv, .inl ⟨rfl, _, SqL.of h2⟩, h F.H0 σ A H R _ fun y ys B H' g2 px rx => ?_⟩
  obtain ⟨b, ws, rfl, e1, e2⟩ := rx
  have R2 := R.grow g2
  obtain ⟨v2, w1, ⟨l2, vs2, e3, w2, w3, w4⟩, _⟩ := R2.ent i _ hΓ
  rw [hv] at w1; cases w1; cases e3
  have hl : vs2.length = xs.length := Paired.length w4
  have hl2 : ws.length = ys.length := Paired.length e2
  have := hz ys px
  refine ⟨l, b, vs2, ws, rfl, rfl, w3, g2.sub _ _ e1, by rw [PySem.sizeLine_eq]; omega, k ys px _ _ ?_⟩
  exact S.chg (e := ownL r xs) (v := .ref l) (le.trans g2.le) (g.trans g2) R2 hΓ hv rfl ⟨l, _, rfl, w2, upd_same, paired_app w4 e2⟩ fun _ z => z
/-- what one owns goes into the base -/
theorem S.shr {F : Fr} {Γ : EnvA} {σ : L2.St} {A H : Hp} {i : Nat} {e e' : Ent} {v : V} {l : Addr} {o : HO} (le : Le F.L A) (g : Grow F.bx F.A0 F.H0 A H) (R : Rel F.bx F.H0 Γ σ A H) (he : Γ[i]? = some (some e)) (hv : σ[i]? = some (some v)) (hl : e.fp H v l)
    (ho : H l = some o) (k : e'.p (upd A l o) H v) (kf : ∀ a, ¬ e'.fp H v a) : S F (Γ.set i (some e')) σ H := by
  obtain ⟨v', q1, q2, q3⟩ := R.ent i e he
  rw [hv] at q1; cases q1
  obtain ⟨hAl, u, hu⟩ := e.ow q2 hl
  have hl0 := q3 l hl
  have nb : ∀ b, F.bx = some b → b ≠ l := fun b hb z => by
    obtain ⟨_, _, o', q⟩ := R.bx b hb
    rw [z, hl0] at q; cases q
  have lA : Le A (upd A l o) := le_new hAl
  have sb : Sub (upd A l o) H := fun a w z => by
    by_cases q : a = l
    · subst q; rw [upd_same] at z; cases z; exact ho
    · rw [upd_ne q] at z; exact R.sub a w z
  refine ⟨upd A l o, le.trans lA, ⟨g.le.trans lA, sb, fun a w n h1 h2 => ?_, fun b n h1 h2 => ?_⟩, ⟨sb, by rw [List.length_set]; exact R.len, R.h0, fun b hb => ?_, fun j d hj => ?_, fun j m d d' w w' a n h1 h2 h3 h4 h5 h6 => ?_⟩⟩
  · obtain ⟨z1, z2⟩ := g.own a w n h1 h2
    exact ⟨by rw [upd_ne (fun z => by rw [z, hl0] at h2; cases h2)]; exact z1, z2⟩
  · obtain ⟨z1, z2⟩ := g.box b n h1 h2
    exact ⟨by rw [upd_ne (nb b n)]; exact z1, z2.le lA⟩
  · obtain ⟨z1, z2, z3⟩ := R.bx b hb
    exact ⟨by rw [upd_ne (nb b hb)]; exact z1, z2.le lA, z3⟩
  · have hi : i < Γ.length := by
      by_cases z : i < Γ.length
      · exact z
      · rw [List.getElem?_eq_none (by omega)] at he; cases he
    by_cases q : i = j
    · subst q
      rw [List.getElem?_set_self hi] at hj
      cases (Option.some.inj (Option.some.inj hj))
      exact ⟨v, hv, k, fun a z => (kf a z).elim⟩
    · rw [List.getElem?_set_ne q] at hj
      obtain ⟨w, z1, z2, z3⟩ := R.ent j d hj
      obtain ⟨y1, y2⟩ := d.st z2 lA fun a u' fa ha => ⟨by
        rw [upd_ne (fun z => R.sep i j e d v w l q he hj hv z1 hl (by rw [← z]; exact fa))]
        exact (d.ow z2 fa).1, ha⟩
      exact ⟨w, z1, y1, z3⟩
  · have hi : i < Γ.length := by
      by_cases z : i < Γ.length
      · exact z
      · rw [List.getElem?_eq_none (by omega)] at he; cases he
    by_cases q : i = j
    · subst q
      rw [List.getElem?_set_self hi] at h1
      cases (Option.some.inj (Option.some.inj h1))
      rw [hv] at h3; cases h3
      exact kf a h5
    · rw [List.getElem?_set_ne q] at h1
      by_cases q2 : i = m
      · subst q2
        rw [List.getElem?_set_self hi] at h2
        cases (Option.some.inj (Option.some.inj h2))
        rw [hv] at h4; cases h4
        exact kf a h6
      · rw [List.getElem?_set_ne q2] at h2
        exact R.sep j m d d' w w' a n h1 h2 h3 h4 h5 h6
theorem tr_share {i : Nat} [m : Mono r] {xs : List α} (hΓ : Γ[i]? = some (some (ownL r xs))) (k : Tr F (Γ.set i (some (sh (rL r) xs))) t D) : Tr F Γ t D := fun σ H ⟨A, le, g, R⟩ => by
  obtain ⟨v, hv, ⟨l, vs, rfl, h1, h2, h3⟩, h4⟩ := R.ent i _ hΓ
  exact k σ H (S.shr (e := ownL r xs) (e' := sh (rL r) xs) le g R hΓ hv rfl h2 ⟨l, vs, rfl, upd_same, Paired.mapP h3 fun _ _ z => m.le (le_new h1) z⟩ fun _ z => z)

/-! ### for -/
theorem tr_for {wi : TI} {g : TG} {js : List Nat} {e : γ → List Ent} {q : List γ → Prop} (hi : EvI F.bx wi g Γ js e q) (P : List γ → Nat → EnvA → Prop) (h0 : ∀ xs, q xs → P xs 0 Γ)
    (hs : ∀ xs, q xs → ∀ B i x, xs[i]? = some x → ∀ Γ', P xs i Γ' → Tr (F.at B) (setsE Γ' js (e x)) t ⟨SS (F.at B) (P xs (i + 1)), D.rt, u D, SS (F.at B) (P xs (i + 1))⟩)
    (hd : ∀ xs, q xs → ∀ Γ', P xs xs.length Γ' → Tr F Γ' u D) : Tr F Γ (tSeq (tFor wi g t) u) D := fun σ H ⟨A, le, gr, R⟩ => by
  refine hi F.H0 σ A H R _ fun J xs B H1 g1 px wk => ?_
  have len : (xs.map e).length = xs.length := List.length_map _
  have w : Walk J xs.length (fun H' => ∃ C, Le B C ∧ Sub C H') (fun i H' x H'' => ∀ (C : Hp) (y : γ), xs[i]? = some y → Le B C → Sub C H' → ∃ C1 : Hp, Grow none C H' C1 H'' ∧ ∀ (σ : L2.St) (Q : L2.St → Hp → Prop), (∀ vs C2 H2, Grow none C1 H'' C2 H2 → Ents (e y) vs C2 H2 → Q (setsV σ js vs) H2) → g x σ H'' Q) :=
    ⟨fun i H' hi ⟨C, h1, h2⟩ => wk.go i C H' (by rw [len]; exact hi) h1 h2, fun H' ⟨C, h1, h2⟩ => by rw [← len]; exact wk.stop C H' h1 h2,
      fun i H' x H'' hi _ y C z hx h1 h2 => wk.yld i (e z) C H' x H'' (by rw [List.getElem?_map, hx]; rfl) h1 h2 y⟩
  refine for_it w (D := { D with nx := u D }) (fun i => SS (F.at B) (P xs i)) ⟨Γ, h0 xs px, B, Le.refl, gr.trans g1, R.grow g1⟩ (fun i σ' H' _ ⟨Γ', _, C, h1, h2, _⟩ => ⟨C, h1, h2.sub⟩) (fun i x σ' H' H'' hi ⟨Γ', pΓ, C, h1, h2, h3⟩ hy => ?_)
    (fun σ' H' ⟨Γ', pΓ, C, h1, h2, h3⟩ => hd xs px Γ' pΓ σ' H' ⟨C, (le.trans g1.le).trans h1, h2, h3⟩)
  obtain ⟨y, hxy⟩ : ∃ y, xs[i]? = some y := ⟨xs[i], List.getElem?_eq_getElem hi⟩
  obtain ⟨C1, k1, k2⟩ := hy C y hxy h1 h2.sub
  refine k2 σ' _ fun vs C2 H2 k3 k4 => ?_
  have k5 : Grow F.bx C H' C2 H2 := (k1.trans k3).free
  exact hs xs px B i y hxy Γ' pΓ _ H2 ⟨C2, h1.trans k5.le, h2.trans k5, (h3.grow k5).sets k4⟩
end

/-! ### a def -/
theorem ents_get : ∀ {es : List Ent} {vs : List V} {A H : Hp}, Ents es vs A H → ∀ (i : Nat) (e : Ent), es[i]? = some e → ∃ v, vs[i]? = some v ∧ e.p A H v ∧ ∀ a, ¬ e.fp H v a
  | _, _, _, _, .nil, i, e, h => by simp at h
  | _, _, _, _, .cons q _, 0, e, h => by
    cases (Option.some.inj h)
    exact ⟨_, rfl, q⟩
  | _, _, _, _, .cons _ t, i + 1, e, h => ents_get t i e h
def startE (N : List Str) (es : List Ent) : EnvA := es.map some ++ List.replicate (N.length - es.length) none
theorem rel_start {β : Option Addr} {N : List Str} {es : List Ent} {vs : List V} {A H : Hp} (s : Sub A H) (hb : ∀ b, β = some b → A b = none ∧ Box A H b) (he : Ents es vs A H) : Rel β H (startE N es) (L2.start N vs) A H := by
  have hl : vs.length = es.length := Paired.length he
  have G : ∀ {i : Nat} {e : Ent}, (startE N es)[i]? = some (some e) → es[i]? = some e := by
    intro i e h
    unfold startE at h
    by_cases q : i < es.length
    · rw [List.getElem?_append_left (by simpa using q), List.getElem?_map] at h
      cases z : es[i]? with
      | none => rw [z] at h; cases h
      | some u => rw [z] at h; simpa using h
    · rw [List.getElem?_append_right (by simpa using q), List.getElem?_replicate] at h
      split at h <;> cases h
  have G2 : ∀ {i : Nat} {v : V}, vs[i]? = some v → (L2.start N vs)[i]? = some (some v) := by
    intro i v h
    unfold L2.start
    have q : i < vs.length := (List.getElem?_eq_some_iff.mp h).1
    rw [List.getElem?_append_left (by simpa using q), List.getElem?_map, h]; rfl
  refine ⟨s, by unfold L2.start startE; simp [hl], fun _ h => h, fun b hb' => ?_, fun i e h => ?_, fun i j e e' v v' a n h1 h2 h3 h4 h5 => ?_⟩
  · obtain ⟨h1, r, xs, n, h2, h3⟩ := hb b hb'
    exact ⟨h1, ⟨r, xs, n, h2, h3⟩, _, h2⟩
  · obtain ⟨v, h1, h2, h3⟩ := ents_get he i e (G h)
    exact ⟨v, G2 h1, h2, fun a z => (h3 a z).elim⟩
  · obtain ⟨u, g1, g2, g3⟩ := ents_get he i e (G h1)
    rw [G2 g1] at h3; cases h3
    exact (g3 a h5).elim
section
variable {P : Program} {w : World} {K : PySem.W.Frag} {mg : Str → Option Value} {base : Heap}
/-- THE RULE for a def -/
theorem ok_def {x qual : Str} {st : Stmt} {f : Addr} {fd : FuncData} {N ps : List Str} {k : Nat} {ι δ : Type} {bx : ι → Option Addr} {args : ι → List Ent} {pre : ι → Prop} {r : RP δ} {post : ι → δ → Prop} (F : Fun K x qual st f fd) (Sc : FnScope N ps (defScope st))
    (len : ∀ g, (args g).length = ps.length)
    (body : ∀ (cdv : Value) (A : Around) (outer : List Env) (s : Shared) (H : Hp) (E : XK), Room k (A.deeper (PyProof.Rows.envOfC qual (defScope st) s.heap.objs.size f cdv)) →
      ∃ t, PSs (cxOf CX0 P w K mg base N qual (defScope st) f cdv A outer s H E).nox (defBody st) t ∧
        ∀ (g : ι) (Fm : Fr) (D : Ends), Fm.bx = bx g → pre g → Rt Fm r (post g) D.rt → (∀ σ H', D.nx σ H' = D.rt .non H') → Tr Fm (startE N (args g)) t D) :
    FnOk P w K mg base CX0 (k + 1) f fd ps (spOf bx args pre r post) := by
  refine F.ok Sc (fun vs H Q E h => ?_) (fun cdv A outer s H vs Q E hr h => ?_)
  · obtain ⟨g, A, _, _, he, _⟩ := h
    have q : vs.length = (args g).length := Paired.length he
    rw [q, len]
  · obtain ⟨t, ht, q⟩ := body cdv A outer s H E hr
    refine ⟨t, ht, ?_⟩
    obtain ⟨g, A1, h1, h2, h3, h4, h5⟩ := h
    exact q g ⟨bx g, A1, H, A1⟩ _ rfl h4 (fun v x B H' g1 p1 r1 => h5 v x B H' g1 p1 r1) (fun _ _ => rfl) _ _ ⟨A1, Le.refl, Grow.refl h1, rel_start h1 h2 h3⟩
end
end Rf
/-! Cal4: what is what; expressions, tests, displays, walks. -/
namespace Rf
open PySem L2

/-! ### what represents what -/
def qI : RP Int := fun _ v i => v = .int i
def qB : RP Bool := fun _ v b => v = .bl b
def qS : RP Str := fun _ v z => v = .str z
def qN : RP Unit := fun _ v _ => v = .non
def qAny : RP Unit := fun _ _ _ => True
def qO {α : Type} (r : RP α) : RP (Option α) := fun A v x => match x with
  | none => v = .non
  | some y => v ≠ .non ∧ r A v y
def qP {α γ : Type} (r1 : RP α) (r2 : RP γ) : RP (α × γ) := fun A v x => ∃ (a : Addr) (v1 v2 : V), v = .ref a ∧ A a = some (.tup [v1, v2]) ∧ r1 A v1 x.1 ∧ r2 A v2 x.2
/-- a tuple of whole numbers -/
def qTI (K : PySem.W.Frag) : RP (List Int) := fun A v l => ∃ a, v = .ref a ∧ SqT K A a (l.map V.int)
instance : Mono qI := ⟨fun _ h => h⟩
instance : Mono qB := ⟨fun _ h => h⟩
instance : Mono qS := ⟨fun _ h => h⟩
instance : Mono qN := ⟨fun _ h => h⟩
instance : Mono qAny := ⟨fun _ h => h⟩
instance {α : Type} (r : RP α) [m : Mono r] : Mono (qO r) := ⟨fun {A B v x} l h => by
  cases x with
  | none => exact h
  | some y => exact ⟨h.1, m.le l h.2⟩⟩
instance {α γ : Type} (r1 : RP α) (r2 : RP γ) [m1 : Mono r1] [m2 : Mono r2] : Mono (qP r1 r2) := ⟨fun l ⟨a, v1, v2, h1, h2, h3, h4⟩ => ⟨a, v1, v2, h1, l.tup h2, m1.le l h3, m2.le l h4⟩⟩
instance (K : PySem.W.Frag) : Mono (qTI K) := ⟨fun l ⟨a, h1, h2⟩ => ⟨a, h1, l.sqt h2⟩⟩
theorem sqt_up {K : PySem.W.Frag} {A H : Hp} {a : Addr} {xs : List V} (s : Sub A H) (h : SqT K A a xs) : SqT K H a xs := s.le.sqt h

section
variable {K : PySem.W.Frag} {β : Option Addr} {Γ : EnvA} {α γ δ : Type} {r : RP α} {r1 : RP γ} {r2 : RP δ} {te ta tb tc : TE} {t u : TT} {pi pj pk : Int → Prop} {pb pb2 pb3 : Bool → Prop} {ps ps2 : Str → Prop}

/-! ### whole numbers -/
theorem ev_int {i : Int} : Ev β (tC (.int i)) Γ qI (· = i) := ev_c fun _ => rfl
theorem ev_str {z : Str} : Ev β (tC (.str z)) Γ qS (· = z) := ev_c fun _ => rfl
theorem ev_bl {b : Bool} : Ev β (tC (.bl b)) Γ qB (· = b) := ev_c fun _ => rfl
theorem ev_non : Ev β (tC .non) Γ qN (fun _ => True) := (ev_c (x := ()) fun _ => rfl).imp fun _ _ => trivial
theorem ev_ii {C : Int → Int → Prop} {g : Int → Int → Int} (ha : Ev β ta Γ qI pi) (hb : Ev β tb Γ qI pj) (hc : ∀ x y, pi x → pj y → C x y) (k : ∀ x y, pi x → pj y → pk (g x y)) : Ev β (tOp (L2.rI C fun i j => .int (g i j)) ta tb) Γ qI pk :=
  ev_op ha (fun _ _ => hb) fun x y px py A H s v w hv hw Q q => by
    cases hv; cases hw
    exact ⟨x, y, rfl, rfl, hc x y px py, q _ _ A H (Grow.refl s) (k x y px py) rfl⟩
theorem ev_i0 {g : Int → Int → Int} (ha : Ev β ta Γ qI pi) (hb : Ev β tb Γ qI pj) (k : ∀ x y, pi x → pj y → pk (g x y)) : Ev β (tOp (rI0 fun i j => .int (g i j)) ta tb) Γ qI pk :=
  ev_op ha (fun _ _ => hb) fun x y px py A H s v w hv hw Q q => by
    cases hv; cases hw
    exact ⟨x, y, rfl, rfl, q _ _ A H (Grow.refl s) (k x y px py) rfl⟩
theorem ev_b0 {g : Int → Int → Bool} (ha : Ev β ta Γ qI pi) (hb : Ev β tb Γ qI pj) (k : ∀ x y, pi x → pj y → pb (g x y)) : Ev β (tOp (rI0 fun i j => .bl (g i j)) ta tb) Γ qB pb :=
  ev_op ha (fun _ _ => hb) fun x y px py A H s v w hv hw Q q => by
    cases hv; cases hw
    exact ⟨x, y, rfl, rfl, q _ _ A H (Grow.refl s) (k x y px py) rfl⟩
theorem ev_iiD {C : Int → Int → Prop} {g : Int → Int → Int} {x y : Int} (ha : Ev β ta Γ qI (· = x)) (hb : Ev β tb Γ qI (· = y)) (hc : C x y) : Ev β (tOp (L2.rI C fun i j => .int (g i j)) ta tb) Γ qI (· = g x y) :=
  ev_ii ha hb (by rintro _ _ rfl rfl; exact hc) (by rintro _ _ rfl rfl; rfl)
theorem ev_i0D {g : Int → Int → Int} {x y : Int} (ha : Ev β ta Γ qI (· = x)) (hb : Ev β tb Γ qI (· = y)) : Ev β (tOp (rI0 fun i j => .int (g i j)) ta tb) Γ qI (· = g x y) := ev_i0 ha hb (by rintro _ _ rfl rfl; rfl)
theorem ev_b0D {g : Int → Int → Bool} {x y : Int} (ha : Ev β ta Γ qI (· = x)) (hb : Ev β tb Γ qI (· = y)) : Ev β (tOp (rI0 fun i j => .bl (g i j)) ta tb) Γ qB (· = g x y) := ev_b0 ha hb (by rintro _ _ rfl rfl; rfl)
theorem ev_eqI (ha : Ev β ta Γ qI pi) (hb : Ev β tb Γ qI pj) (k : ∀ x y, pi x → pj y → pb (decide (x = y))) : Ev β (tOp rEq ta tb) Γ qB pb :=
  ev_op ha (fun _ _ => hb) fun x y px py A H s v w hv hw Q q => by
    cases hv; cases hw
    exact ⟨rfl, q _ (decide (x = y)) A H (Grow.refl s) (k x y px py) (by show V.bl _ = V.bl _; rw [dec_int, Bool.beq_eq_decide_eq])⟩
theorem ev_neI (ha : Ev β ta Γ qI pi) (hb : Ev β tb Γ qI pj) (k : ∀ x y, pi x → pj y → pb (!decide (x = y))) : Ev β (tOp rNe ta tb) Γ qB pb :=
  ev_op ha (fun _ _ => hb) fun x y px py A H s v w hv hw Q q => by
    cases hv; cases hw
    exact ⟨rfl, q _ (!decide (x = y)) A H (Grow.refl s) (k x y px py) (by show V.bl _ = V.bl _; rw [dec_int, Bool.beq_eq_decide_eq])⟩
theorem ev_eqS (ha : Ev β ta Γ qS ps) (hb : Ev β tb Γ qS ps2) (k : ∀ x y, ps x → ps2 y → pb (decide (x = y))) : Ev β (tOp rEq ta tb) Γ qB pb :=
  ev_op ha (fun _ _ => hb) fun x y px py A H s v w hv hw Q q => by
    cases hv; cases hw
    exact ⟨rfl, q _ (decide (x = y)) A H (Grow.refl s) (k x y px py) (by show V.bl _ = V.bl _; simp)⟩
theorem ev_neS (ha : Ev β ta Γ qS ps) (hb : Ev β tb Γ qS ps2) (k : ∀ x y, ps x → ps2 y → pb (!decide (x = y))) : Ev β (tOp rNe ta tb) Γ qB pb :=
  ev_op ha (fun _ _ => hb) fun x y px py A H s v w hv hw Q q => by
    cases hv; cases hw
    exact ⟨rfl, q _ (!decide (x = y)) A H (Grow.refl s) (k x y px py) (by show V.bl _ = V.bl _; simp)⟩
theorem ev_eqID {x y : Int} (ha : Ev β ta Γ qI (· = x)) (hb : Ev β tb Γ qI (· = y)) : Ev β (tOp rEq ta tb) Γ qB (· = decide (x = y)) := ev_eqI ha hb (by rintro _ _ rfl rfl; rfl)
theorem ev_neID {x y : Int} (ha : Ev β ta Γ qI (· = x)) (hb : Ev β tb Γ qI (· = y)) : Ev β (tOp rNe ta tb) Γ qB (· = !decide (x = y)) := ev_neI ha hb (by rintro _ _ rfl rfl; rfl)
theorem ev_eqSD {x y : Str} (ha : Ev β ta Γ qS (· = x)) (hb : Ev β tb Γ qS (· = y)) : Ev β (tOp rEq ta tb) Γ qB (· = decide (x = y)) := ev_eqS ha hb (by rintro _ _ rfl rfl; rfl)
theorem ev_neSD {x y : Str} (ha : Ev β ta Γ qS (· = x)) (hb : Ev β tb Γ qS (· = y)) : Ev β (tOp rNe ta tb) Γ qB (· = !decide (x = y)) := ev_neS ha hb (by rintro _ _ rfl rfl; rfl)
theorem ev_catS {ps3 : Str → Prop} (ha : Ev β ta Γ qS ps) (hb : Ev β tb Γ qS ps2) (hz : ∀ x y, ps x → ps2 y → x.length + y.length ≤ 16777216) (k : ∀ x y, ps x → ps2 y → ps3 (x ++ y)) :
    Ev β (tOp (fun x y H Q => ∃ i j : Str, x = .str i ∧ y = .str j ∧ i.length + j.length ≤ sizeLine ∧ Q (.str (i ++ j)) H) ta tb) Γ qS ps3 :=
  ev_op ha (fun _ _ => hb) fun x y px py A H s v w hv hw Q q => by
    cases hv; cases hw
    exact ⟨x, y, rfl, rfl, by rw [PySem.sizeLine_eq]; exact hz x y px py, q _ _ A H (Grow.refl s) (k x y px py) rfl⟩

/-! ### tests -/
theorem et_test (h : Ev β te Γ qB pb) : EvT β (tTest te) Γ pb := fun H0 σ A H R Q q => h H0 σ A H R _ fun v x B H' g px rx => ⟨x, rx, q x B H' g px⟩
theorem et_B (h : Ev β te Γ qB pb) : EvT β (tB te) Γ pb := fun H0 σ A H R Q q => h H0 σ A H R _ fun v x B H' g px rx => ⟨x, rx, q x B H' g px⟩
theorem et_yes : EvT β tYes Γ (· = true) := fun H0 σ A H R Q q => q true A H (Grow.refl R.sub) rfl
theorem et_and (h : EvT β t Γ pb) (h1 : pb false → pb3 false) (h2 : pb true → EvT β u Γ pb3) : EvT β (tAnd t u) Γ pb3 := fun H0 σ A H R Q q => h H0 σ A H R _ fun b B H' g px => by
  cases b with
  | true => exact h2 px H0 σ B H' (R.grow g) Q fun c C H2 g2 pc => q c C H2 (g.trans g2) pc
  | false => exact q false B H' g (h1 px)
theorem et_or (h : EvT β t Γ pb) (h1 : pb true → pb3 true) (h2 : pb false → EvT β u Γ pb3) : EvT β (tOr t u) Γ pb3 := fun H0 σ A H R Q q => h H0 σ A H R _ fun b B H' g px => by
  cases b with
  | false => exact h2 px H0 σ B H' (R.grow g) Q fun c C H2 g2 pc => q c C H2 (g.trans g2) pc
  | true => exact q true B H' g (h1 px)
theorem et_not (h : EvT β t Γ pb) (k : ∀ b, pb b → pb3 (!b)) : EvT β (tNot t) Γ pb3 := fun H0 σ A H R Q q => h H0 σ A H R _ fun b B H' g px => q (!b) B H' g (k b px)
theorem et_andD {a b : Bool} (h : EvT β t Γ (· = a)) (h2 : a = true → EvT β u Γ (· = b)) : EvT β (tAnd t u) Γ (· = (a && b)) :=
  et_and h (fun e => by rw [← e]; rfl) fun e => (h2 e.symm).imp fun x ex => by rw [← e, ex]; rfl
theorem et_orD {a b : Bool} (h : EvT β t Γ (· = a)) (h2 : a = false → EvT β u Γ (· = b)) : EvT β (tOr t u) Γ (· = (a || b)) :=
  et_or h (fun e => by rw [← e]; rfl) fun e => (h2 e.symm).imp fun x ex => by rw [← e, ex]; rfl
theorem et_notD {a : Bool} (h : EvT β t Γ (· = a)) : EvT β (tNot t) Γ (· = !a) := et_not h fun b e => by rw [e]
theorem ev_andV (h : Ev β ta Γ qB pb) (h1 : pb false → pb3 false) (h2 : pb true → Ev β tb Γ qB pb3) : Ev β (tAndV ta tb) Γ qB pb3 := fun H0 σ A H R Q q => h H0 σ A H R _ fun v b B H' g px rx => ⟨b, rx, by
  cases b with
  | true => exact h2 px H0 σ B H' (R.grow g) Q fun v c C H2 g2 pc rc => q v c C H2 (g.trans g2) pc rc
  | false => exact q _ false B H' g (h1 px) rfl⟩
theorem ev_andVD {a b : Bool} (h : Ev β ta Γ qB (· = a)) (h2 : a = true → Ev β tb Γ qB (· = b)) : Ev β (tAndV ta tb) Γ qB (· = (a && b)) :=
  ev_andV h (fun e => by rw [← e]; rfl) fun e => (h2 e.symm).imp fun x ex => by rw [← e, ex]; rfl
theorem ev_if {p : α → Prop} (h : EvT β t Γ pb) (h1 : pb true → Ev β ta Γ r p) (h2 : pb false → Ev β tb Γ r p) : Ev β (tIf t ta tb) Γ r p := fun H0 σ A H R Q q => h H0 σ A H R _ fun b B H' g px => by
  cases b with
  | true => exact h1 px H0 σ B H' (R.grow g) Q fun v c C H2 g2 pc rc => q v c C H2 (g.trans g2) pc rc
  | false => exact h2 px H0 σ B H' (R.grow g) Q fun v c C H2 g2 pc rc => q v c C H2 (g.trans g2) pc rc
def tTru (K : PySem.W.Frag) (ta : TE) : TT := fun σ H Q => ta σ H fun x H' => ∃ k, TruV K x H' k ∧ Q k H'
theorem et_truI (h : Ev β ta Γ qI pi) (k : ∀ x, pi x → pb (x != 0)) : EvT β (tTru K ta) Γ pb := fun H0 σ A H R Q q => h H0 σ A H R _ fun v x B H' g px rx => ⟨x != 0, by cases rx; rfl, q _ B H' g (k x px)⟩
theorem et_truB (h : Ev β ta Γ qB pb) : EvT β (tTru K ta) Γ pb := fun H0 σ A H R Q q => h H0 σ A H R _ fun v x B H' g px rx => ⟨x, by cases rx; rfl, q _ B H' g px⟩
theorem et_truL {p : List α → Prop} (h : Ev β ta Γ (rL r) p) (k : ∀ x, p x → pb (!x.isEmpty)) : EvT β (tTru K ta) Γ pb := fun H0 σ A H R Q q => h H0 σ A H R _ fun v x B H' g px rx => by
  obtain ⟨l, vs, rfl, h1, h2⟩ := rx
  refine ⟨!x.isEmpty, .inl ⟨vs, SqL.of (g.sub _ _ h1), ?_⟩, q _ B H' g (k x px)⟩
  cases h2 <;> rfl

/-! ### is None -/
theorem ev_isN {p : Option α → Prop} (h : Ev β ta Γ (qO r) p) (k : ∀ x, p x → pb x.isNone) : Ev β (tIsN ta) Γ qB pb := fun H0 σ A H R Q q => h H0 σ A H R _ fun v x B H' g px rx => by
  refine q _ x.isNone B H' g (k x px) ?_
  show V.bl _ = V.bl _
  cases x with
  | none => cases rx; rfl
  | some y => rw [decide_eq_false rx.1]; rfl
theorem ev_notN {p : Option α → Prop} (h : Ev β ta Γ (qO r) p) (k : ∀ x, p x → pb x.isSome) : Ev β (tNotN ta) Γ qB pb := fun H0 σ A H R Q q => h H0 σ A H R _ fun v x B H' g px rx => by
  refine q _ x.isSome B H' g (k x px) ?_
  show V.bl _ = V.bl _
  cases x with
  | none => cases rx; rfl
  | some y => rw [decide_eq_false rx.1]; rfl
def rIsN2 : R2 := fun x y H Q => y = .non ∧ Q (.bl (decide (x = .non))) H
def rNotN2 : R2 := fun x y H Q => y = .non ∧ Q (.bl (!decide (x = .non))) H
theorem ev_isN2 {p : Option α → Prop} (h : Ev β ta Γ (qO r) p) (k : ∀ x, p x → pb x.isNone) : Ev β (tOp rIsN2 ta (tC .non)) Γ qB pb := fun H0 σ A H R Q q => h H0 σ A H R _ fun v x B H' g px rx => by
  refine ⟨rfl, q _ x.isNone B H' g (k x px) ?_⟩
  show V.bl _ = V.bl _
  cases x with
  | none => cases rx; rfl
  | some y => rw [decide_eq_false rx.1]; rfl
theorem ev_notN2 {p : Option α → Prop} (h : Ev β ta Γ (qO r) p) (k : ∀ x, p x → pb x.isSome) : Ev β (tOp rNotN2 ta (tC .non)) Γ qB pb := fun H0 σ A H R Q q => h H0 σ A H R _ fun v x B H' g px rx => by
  refine ⟨rfl, q _ x.isSome B H' g (k x px) ?_⟩
  show V.bl _ = V.bl _
  cases x with
  | none => cases rx; rfl
  | some y => rw [decide_eq_false rx.1]; rfl

/-! ### places -/
theorem atI_int {ι : Type} {xs : List ι} {i : Int} {x : ι} (h0 : 0 ≤ i) (h : xs[i.toNat]? = some x) : atI xs i = some x := by
  obtain ⟨n, rfl⟩ := Int.eq_ofNat_of_zero_le h0
  exact atI_nat h
theorem ev_ixL [m : Mono r] {p : List α → Prop} {p3 : α → Prop} (ha : Ev β ta Γ (rL r) p) (hb : ∀ xs, p xs → Ev β tb Γ qI pi) (k : ∀ xs i, p xs → pi i → ∃ x, 0 ≤ i ∧ xs[i.toNat]? = some x ∧ p3 x) : Ev β (tOp (rIxL K) ta tb) Γ r p3 :=
  ev_op ha hb fun xs i px py A H s v w hv hw Q q => by
    obtain ⟨l, vs, rfl, h1, h2⟩ := hv
    cases hw
    obtain ⟨x, h0, hx, p3x⟩ := k xs i px py
    obtain ⟨y, hy, ry⟩ := paired_at h2 hx
    exact ⟨l, vs, i, y, rfl, rfl, SqL.of (s _ _ h1), atI_int h0 hy, q y x A H (Grow.refl s) p3x ry⟩
theorem ev_ixTI {p : List Int → Prop} (ha : Ev β ta Γ (qTI K) p) (hb : ∀ xs, p xs → Ev β tb Γ qI pi) (k : ∀ xs i, p xs → pi i → ∃ x, 0 ≤ i ∧ xs[i.toNat]? = some x ∧ pj x) : Ev β (tOp (rIxT K) ta tb) Γ qI pj :=
  ev_op ha hb fun xs i px py A H s v w hv hw Q q => by
    obtain ⟨l, rfl, h1⟩ := hv
    cases hw
    obtain ⟨x, h0, hx, p3x⟩ := k xs i px py
    exact ⟨l, _, i, .int x, rfl, rfl, sqt_up s h1, atI_int h0 (by rw [List.getElem?_map, hx]; rfl), q _ x A H (Grow.refl s) p3x rfl⟩
theorem ev_ixP1 {p : γ × δ → Prop} {p3 : γ → Prop} [m1 : Mono r1] [m2 : Mono r2] (ha : Ev β ta Γ (qP r1 r2) p) (k : ∀ x, p x → p3 x.1) : Ev β (tOp (rIxT K) ta (tC (.int 0))) Γ r1 p3 :=
  ev_op ha (fun _ _ => ev_int) fun x i px py A H s v w hv hw Q q => by
    obtain ⟨l, v1, v2, rfl, h1, h2, h3⟩ := hv
    cases hw; cases py
    exact ⟨l, _, 0, v1, rfl, rfl, SqT.of (s _ _ h1), rfl, q _ _ A H (Grow.refl s) (k x px) h2⟩
theorem ev_ixP2 {p : γ × δ → Prop} {p3 : δ → Prop} [m1 : Mono r1] [m2 : Mono r2] (ha : Ev β ta Γ (qP r1 r2) p) (k : ∀ x, p x → p3 x.2) : Ev β (tOp (rIxT K) ta (tC (.int 1))) Γ r2 p3 :=
  ev_op ha (fun _ _ => ev_int) fun x i px py A H s v w hv hw Q q => by
    obtain ⟨l, v1, v2, rfl, h1, h2, h3⟩ := hv
    cases hw; cases py
    exact ⟨l, _, 1, v2, rfl, rfl, SqT.of (s _ _ h1), rfl, q _ _ A H (Grow.refl s) (k x px) h3⟩
theorem ev_ixS {ps3 : Str → Prop} (ha : Ev β ta Γ qS ps) (hb : ∀ z, ps z → Ev β tb Γ qI pi) (k : ∀ z i, ps z → pi i → z.length ≤ 16777216 ∧ ∃ c, 0 ≤ i ∧ z.cps.toList[i.toNat]? = some c ∧ ps3 ⟨#[c]⟩) : Ev β (tOp rIxS ta tb) Γ qS ps3 :=
  ev_op ha hb fun z i px py A H s v w hv hw Q q => by
    cases hv; cases hw
    obtain ⟨hl, c, h0, hc, p3⟩ := k z i px py
    exact ⟨z, i, c, rfl, rfl, by rw [PySem.sizeLine_eq]; exact hl, atI_int h0 hc, q _ _ A H (Grow.refl s) p3 rfl⟩

/-! ### displays -/
theorem ev_tup2 [m1 : Mono r1] [m2 : Mono r2] {p1 : γ → Prop} {p2 : δ → Prop} (h1 : Ev β ta Γ r1 p1) (h2 : ∀ x, p1 x → Ev β tb Γ r2 p2) : Ev β (tTup (tCons ta (tCons tb tNil))) Γ (qP r1 r2) fun z => p1 z.1 ∧ p2 z.2 := fun H0 σ A H R Q q =>
  h1 H0 σ A H R _ fun v x B H1 g px rx => h2 x px H0 σ B H1 (R.grow g) _ fun w y C H2 g2 py ry => ⟨by show 2 ≤ sizeLine; decide, fun a ha =>
    q (.ref a) (x, y) (upd C a (.tup [v, w])) _ ((g.trans g2).trans (Grow.new g2.sub ha)) ⟨px, py⟩ ⟨a, v, w, rfl, upd_same, m1.le (g2.le.trans (le_new (g2.sub.no ha))) rx, m2.le (le_new (g2.sub.no ha)) ry⟩⟩
theorem ev_tupI2 {i j : Int} (h1 : Ev β ta Γ qI (· = i)) (h2 : Ev β tb Γ qI (· = j)) : Ev β (tTup (tCons ta (tCons tb tNil))) Γ (qTI K) (· = [i, j]) := fun H0 σ A H R Q q =>
  h1 H0 σ A H R _ fun v x B H1 g px rx => h2 H0 σ B H1 (R.grow g) _ fun w y C H2 g2 py ry => ⟨by show 2 ≤ sizeLine; decide, fun a ha => by
    cases rx; cases ry; cases px; cases py
    exact q (.ref a) [i, j] (upd C a (.tup [.int i, .int j])) _ ((g.trans g2).trans (Grow.new g2.sub ha)) rfl ⟨a, rfl, SqT.of upd_same⟩⟩
theorem ev_tupI3 {i j l : Int} (h1 : Ev β ta Γ qI (· = i)) (h2 : Ev β tb Γ qI (· = j)) (h3 : Ev β tc Γ qI (· = l)) : Ev β (tTup (tCons ta (tCons tb (tCons tc tNil)))) Γ (qTI K) (· = [i, j, l]) := fun H0 σ A H R Q q =>
  h1 H0 σ A H R _ fun v x B H1 g px rx => h2 H0 σ B H1 (R.grow g) _ fun w y C H2 g2 py ry => h3 H0 σ C H2 ((R.grow g).grow g2) _ fun z u E H3 g3 pz rz => ⟨by show 3 ≤ sizeLine; decide, fun a ha => by
    cases rx; cases ry; cases rz; cases px; cases py; cases pz
    exact q (.ref a) [i, j, l] (upd E a (.tup [.int i, .int j, .int l])) _ (((g.trans g2).trans g3).trans (Grow.new g3.sub ha)) rfl ⟨a, rfl, SqT.of upd_same⟩⟩
theorem en_lst1 [m : Mono r] {p : α → Prop} (h : Ev β ta Γ r p) : EvN β (tLst (tCons ta tNil)) Γ r fun l => ∃ x, p x ∧ l = [x] := fun H0 σ A H R Q q =>
  h H0 σ A H R _ fun v x B H1 g px rx => ⟨by show 1 ≤ sizeLine; decide, fun l hl => q l [v] [x] B _ (g.trans (Grow.newOwn g.sub hl)) (R.back g hl) (g.sub.no hl) upd_same ⟨x, px, rfl⟩ (.cons rx .nil)⟩
theorem en_lst2 [m : Mono r] {p p2 : α → Prop} (h : Ev β ta Γ r p) (h2 : Ev β tb Γ r p2) : EvN β (tLst (tCons ta (tCons tb tNil))) Γ r fun l => ∃ x y, p x ∧ p2 y ∧ l = [x, y] := fun H0 σ A H R Q q =>
  h H0 σ A H R _ fun v x B H1 g px rx => h2 H0 σ B H1 (R.grow g) _ fun w y C H2 g2 py ry => ⟨by show 2 ≤ sizeLine; decide, fun l hl => q l [v, w] [x, y] C _ ((g.trans g2).trans (Grow.newOwn g2.sub hl)) (R.back (g.trans g2) hl) (g2.sub.no hl) upd_same ⟨x, y, px, py, rfl⟩ (.cons (m.le g2.le rx) (.cons ry .nil))⟩
theorem en_lst3 [m : Mono r] {p p2 p3 : α → Prop} (h : Ev β ta Γ r p) (h2 : Ev β tb Γ r p2) (h3 : Ev β tc Γ r p3) : EvN β (tLst (tCons ta (tCons tb (tCons tc tNil)))) Γ r fun l => ∃ x y z, p x ∧ p2 y ∧ p3 z ∧ l = [x, y, z] := fun H0 σ A H R Q q =>
  h H0 σ A H R _ fun v x B H1 g px rx => h2 H0 σ B H1 (R.grow g) _ fun w y C H2 g2 py ry => h3 H0 σ C H2 ((R.grow g).grow g2) _ fun u z E H3 g3 pz rz => ⟨by show 3 ≤ sizeLine; decide, fun l hl => q l [v, w, u] [x, y, z] E _ (((g.trans g2).trans g3).trans (Grow.newOwn g3.sub hl)) (R.back ((g.trans g2).trans g3) hl) (g3.sub.no hl) upd_same ⟨x, y, z, px, py, pz, rfl⟩
    (.cons (m.le (g2.trans g3).le rx) (.cons (m.le g3.le ry) (.cons rz .nil)))⟩

/-! ### built-ins -/
def rLen2 (K : PySem.W.Frag) : List V → Hp → VK → Prop := fun xs H Q => ∃ p ys, xs = [.ref p] ∧ (SqL K H p ys ∨ SqT K H p ys) ∧ Q (.int ys.length) H
def rLenStr : List V → Hp → VK → Prop := fun xs H Q => ∃ z : Str, xs = [.str z] ∧ z.length ≤ sizeLine ∧ Q (.int z.length) H
def rInt1 : List V → Hp → VK → Prop := fun xs H Q => (∃ i, xs = [.int i] ∧ Q (.int i) H) ∨ ∃ k, xs = [.bl k] ∧ Q (.int (if k then 1 else 0)) H
def rAbs1 : List V → Hp → VK → Prop := fun xs H Q => ∃ i, xs = [.int i] ∧ Q (.int (if i < 0 then -i else i)) H
def rList1 (K : PySem.W.Frag) : List V → Hp → VK → Prop := fun xs H Q => ∃ p ys, xs = [.ref p] ∧ (SqL K H p ys ∨ SqT K H p ys) ∧ ∀ l, H l = none → Q (.ref l) (upd H l (.lst ys))
def rTuple1 (K : PySem.W.Frag) : List V → Hp → VK → Prop := fun xs H Q => ∃ p ys, xs = [.ref p] ∧ ((SqL K H p ys ∧ ∀ l, H l = none → Q (.ref l) (upd H l (.tup ys))) ∨ (SqT K H p ys ∧ Q (.ref p) H))
theorem ev_lenL {p : List α → Prop} (h : Ev β ta Γ (rL r) p) (k : ∀ xs, p xs → pi (xs.length : Int)) : Ev β (tCB (rLen2 K) (tCons ta tNil)) Γ qI pi := fun H0 σ A H R Q q =>
  h H0 σ A H R _ fun v x B H1 g px ⟨l, vs, e, h1, h2⟩ => ⟨l, vs, by rw [e], .inl (SqL.of (g.sub _ _ h1)), by
    rw [show (vs.length : Int) = (x.length : Int) by rw [show vs.length = x.length from Paired.length h2]]
    exact q _ _ B H1 g (k x px) rfl⟩
theorem ev_lenS (h : Ev β ta Γ qS ps) (hl : ∀ z, ps z → z.length ≤ 16777216) (k : ∀ z, ps z → pi (z.length : Int)) : Ev β (tCB rLenStr (tCons ta tNil)) Γ qI pi := fun H0 σ A H R Q q =>
  h H0 σ A H R _ fun v z B H1 g px e => ⟨z, by rw [show v = V.str z from e], by rw [PySem.sizeLine_eq]; exact hl z px, q _ _ B H1 g (k z px) rfl⟩
theorem ev_intI (h : Ev β ta Γ qI pi) : Ev β (tCB rInt1 (tCons ta tNil)) Γ qI pi := fun H0 σ A H R Q q =>
  h H0 σ A H R _ fun v i B H1 g px e => .inl ⟨i, by rw [show v = V.int i from e], q _ _ B H1 g px rfl⟩
theorem ev_intB (h : Ev β ta Γ qB pb) (k : ∀ b, pb b → pi (if b then 1 else 0)) : Ev β (tCB rInt1 (tCons ta tNil)) Γ qI pi := fun H0 σ A H R Q q =>
  h H0 σ A H R _ fun v b B H1 g px e => .inr ⟨b, by rw [show v = V.bl b from e], q _ _ B H1 g (k b px) rfl⟩
theorem ev_abs (h : Ev β ta Γ qI pi) (k : ∀ i, pi i → pj (if i < 0 then -i else i)) : Ev β (tCB rAbs1 (tCons ta tNil)) Γ qI pj := fun H0 σ A H R Q q =>
  h H0 σ A H R _ fun v i B H1 g px e => ⟨i, by rw [show v = V.int i from e], q _ _ B H1 g (k i px) rfl⟩
theorem paired_ints {A : Hp} : ∀ {vs : List V} {ns : List Int}, Paired (qI A) vs ns → vs = ns.map V.int
  | _, _, .nil => rfl
  | _, _, .cons h t => by
    cases (show _ = _ from h)
    rw [paired_ints t]; rfl
theorem ints_paired {A : Hp} : ∀ {ns : List Int}, Paired (qI A) (ns.map V.int) ns
  | [] => .nil
  | _ :: _ => .cons rfl ints_paired
theorem paired_bls {A : Hp} : ∀ {vs : List V} {ns : List Bool}, Paired (qB A) vs ns → vs = ns.map V.bl
  | _, _, .nil => rfl
  | _, _, .cons h t => by
    cases (show _ = _ from h)
    rw [paired_bls t]; rfl
theorem paired_strs {A : Hp} : ∀ {vs : List V} {ns : List Str}, Paired (qS A) vs ns → vs = ns.map V.str
  | _, _, .nil => rfl
  | _, _, .cons h t => by
    cases (show _ = _ from h)
    rw [paired_strs t]; rfl
theorem ev_sum {p : List Int → Prop} (h : Ev β ta Γ (rL qI) p) (k : ∀ xs, p xs → pi xs.sum) : Ev β (tCB (rSum K) (tCons ta tNil)) Γ qI pi := fun H0 σ A H R Q q =>
  h H0 σ A H R _ fun v x B H1 g px ⟨l, vs, e, h1, h2⟩ => ⟨l, x, by rw [e], by rw [paired_ints h2] at h1; exact SqL.of (g.sub _ _ h1), q _ _ B H1 g (k x px) rfl⟩
theorem ev_min {p : List Int → Prop} (h : Ev β ta Γ (rL qI) p) (h0 : ∀ xs, p xs → 0 < xs.length) (k : ∀ xs m, p xs → m ∈ xs → (∀ y ∈ xs, m ≤ y) → pi m) : Ev β (tCB (rMin K) (tCons ta tNil)) Γ qI pi := fun H0 σ A H R Q q =>
  h H0 σ A H R _ fun v x B H1 g px ⟨l, vs, e, h1, h2⟩ => ⟨l, x, by rw [e], by rw [paired_ints h2] at h1; exact SqL.of (g.sub _ _ h1), h0 x px, fun m hm hle => q _ _ B H1 g (k x m px hm hle) rfl⟩
theorem ev_any {p : List Bool → Prop} (h : Ev β ta Γ (rL qB) p) (k : ∀ xs, p xs → pb (xs.any id)) : Ev β (tCB (rAny K) (tCons ta tNil)) Γ qB pb := fun H0 σ A H R Q q =>
  h H0 σ A H R _ fun v x B H1 g px ⟨l, vs, e, h1, h2⟩ => ⟨l, x, by rw [e], by rw [paired_bls h2] at h1; exact SqL.of (g.sub _ _ h1), q _ _ B H1 g (k x px) rfl⟩
theorem ev_all {p : List Bool → Prop} (h : Ev β ta Γ (rL qB) p) (k : ∀ xs, p xs → pb (xs.all id)) : Ev β (tCB (rAll K) (tCons ta tNil)) Γ qB pb := fun H0 σ A H R Q q =>
  h H0 σ A H R _ fun v x B H1 g px ⟨l, vs, e, h1, h2⟩ => ⟨l, x, by rw [e], by rw [paired_bls h2] at h1; exact SqL.of (g.sub _ _ h1), q _ _ B H1 g (k x px) rfl⟩
/-- list(xs): a new list -/
theorem en_list [m : Mono r] {p : List α → Prop} (h : Ev β ta Γ (rL r) p) : EvN β (tCB (rList1 K) (tCons ta tNil)) Γ r p := fun H0 σ A H R Q q =>
  h H0 σ A H R _ fun v x B H1 g px ⟨l, vs, e, h1, h2⟩ => ⟨l, vs, by rw [e], .inl (SqL.of (g.sub _ _ h1)), fun a ha => q a vs x B _ (g.trans (Grow.newOwn g.sub ha)) (R.back g ha) (g.sub.no ha) upd_same px h2⟩
theorem en_listT {p : List Int → Prop} (h : Ev β ta Γ (qTI K) p) : EvN β (tCB (rList1 K) (tCons ta tNil)) Γ qI p := fun H0 σ A H R Q q =>
  h H0 σ A H R _ fun v x B H1 g px ⟨l, e, h1⟩ => ⟨l, _, by rw [e], .inr (sqt_up g.sub h1), fun a ha => q a _ x B _ (g.trans (Grow.newOwn g.sub ha)) (R.back g ha) (g.sub.no ha) upd_same px ints_paired⟩
/-- tuple(list of whole numbers) -/
theorem ev_tupleL {p : List Int → Prop} (h : Ev β ta Γ (rL qI) p) : Ev β (tCB (rTuple1 K) (tCons ta tNil)) Γ (qTI K) p := fun H0 σ A H R Q q =>
  h H0 σ A H R _ fun v x B H1 g px ⟨l, vs, e, h1, h2⟩ => ⟨l, vs, by rw [e], .inl ⟨SqL.of (g.sub _ _ h1), fun a ha => q _ x (upd B a (.tup vs)) _ (g.trans (Grow.new g.sub ha)) px ⟨a, rfl, SqT.of (by rw [paired_ints h2]; exact upd_same)⟩⟩⟩
theorem ev_tupleT {p : List Int → Prop} (h : Ev β ta Γ (qTI K) p) : Ev β (tCB (rTuple1 K) (tCons ta tNil)) Γ (qTI K) p := fun H0 σ A H R Q q =>
  h H0 σ A H R _ fun v x B H1 g px ⟨l, e, h1⟩ => ⟨l, _, by rw [e], .inr ⟨sqt_up g.sub h1, q _ x B _ g px ⟨l, rfl, h1⟩⟩⟩
theorem ev_gcd (h : Ev β ta Γ qI pi) (h2 : Ev β tb Γ qI pj) (k : ∀ i j, pi i → pj j → pk ((Nat.gcd i.natAbs j.natAbs : Nat) : Int)) : Ev β (tCB rGcd (tCons ta (tCons tb tNil))) Γ qI pk := fun H0 σ A H R Q q =>
  h H0 σ A H R _ fun v i B H1 g px e => h2 H0 σ B H1 (R.grow g) _ fun w j C H2 g2 py e2 => ⟨i, j, by rw [show v = V.int i from e, show w = V.int j from e2], q _ _ C H2 (g.trans g2) (k i j px py) rfl⟩
/-- xs + ys: a new list -/
theorem en_cat [m : Mono r] {p p2 : List α → Prop} (h : Ev β ta Γ (rL r) p) (h2 : ∀ xs, p xs → Ev β tb Γ (rL r) p2) (hz : ∀ xs ys, p xs → p2 ys → xs.length + ys.length ≤ 16777216) : EvN β (tOp rCat ta tb) Γ r fun l => ∃ xs ys, p xs ∧ p2 ys ∧ l = xs ++ ys := fun H0 σ A H R Q q =>
  h H0 σ A H R _ fun v x B H1 g px ⟨l, vs, e, e1, e2⟩ => h2 x px H0 σ B H1 (R.grow g) _ fun w y C H2 g2 py ⟨l', ws, e', e1', e2'⟩ => by
    subst e e'
    have l1 : vs.length = x.length := Paired.length e2
    have l2 : ws.length = y.length := Paired.length e2'
    have := hz x y px py
    exact ⟨l, l', vs, ws, rfl, rfl, g2.sub _ _ (g2.le.lst e1), g2.sub _ _ e1', by rw [PySem.sizeLine_eq]; omega, fun a ha =>
      q a (vs ++ ws) (x ++ y) C _ ((g.trans g2).trans (Grow.newOwn g2.sub ha)) (R.back (g.trans g2) ha) (g2.sub.no ha) upd_same ⟨x, y, px, py, rfl⟩ (paired_app (Paired.mapP e2 fun _ _ z => m.le g2.le z) e2')⟩
theorem paired_rev {ι κ : Type} {F : ι → κ → Prop} : ∀ {l₁ : List ι} {l₂ : List κ}, Paired F l₁ l₂ → Paired F l₁.reverse l₂.reverse
  | _, _, .nil => .nil
  | _, _, .cons h t => by rw [List.reverse_cons, List.reverse_cons]; exact paired_snoc (paired_rev t) h
/-- xs[::-1] -/
theorem en_rev [m : Mono r] {p : List α → Prop} (h : Ev β ta Γ (rL r) p) : EvN β (tRevL K ta) Γ r fun l => ∃ xs, p xs ∧ l = xs.reverse := fun H0 σ A H R Q q =>
  h H0 σ A H R _ fun v x B H1 g px ⟨l, vs, e, e1, e2⟩ => ⟨l, vs, e, SqL.of (g.sub _ _ e1), fun a ha => q a _ x.reverse B _ (g.trans (Grow.newOwn g.sub ha)) (R.back g ha) (g.sub.no ha) upd_same ⟨x, px, rfl⟩ (paired_rev e2)⟩
/-- n in xs, n not in xs -/
theorem inV_ints {n : Int} {ns : List Int} : inV (V.int n) (ns.map V.int) = ns.contains n := by
  induction ns with
  | nil => rfl
  | cons a t ih =>
    show (eqV (V.int a) (V.int n) || inV (V.int n) (t.map V.int)) = (a :: t).contains n
    rw [ih, List.contains_cons]
    congr 1
    show (a == n) = (n == a)
    rw [Bool.eq_iff_iff, beq_iff_eq, beq_iff_eq]
    exact eq_comm
theorem flat_ints : ∀ ns : List Int, (ns.map V.int).all flatV = true
  | [] => rfl
  | _ :: t => by rw [List.map_cons, List.all_cons, flat_ints t]; rfl
theorem ev_inL {p : List Int → Prop} (h : Ev β ta Γ qI pi) (h2 : Ev β tb Γ (rL qI) p) (k : ∀ n xs, pi n → p xs → pb (xs.contains n)) : Ev β (tOp (rIn K false) ta tb) Γ qB pb :=
  ev_op h (fun _ _ => h2) fun n xs px py A H s v w hv ⟨l, vs, e, e1, e2⟩ Q q => by
    cases hv; subst e
    rw [paired_ints e2] at e1
    refine ⟨l, _, rfl, .inl (SqL.of (s _ _ e1)), rfl, flat_ints _, ?_⟩
    show Q (.bl (inV _ _)) H
    rw [inV_ints]
    exact q _ _ A H (Grow.refl s) (k n xs px py) rfl
theorem ev_niT {p : List Int → Prop} (h : Ev β ta Γ qI pi) (h2 : Ev β tb Γ (qTI K) p) (k : ∀ n xs, pi n → p xs → pb (!xs.contains n)) : Ev β (tOp (rIn K true) ta tb) Γ qB pb :=
  ev_op h (fun _ _ => h2) fun n xs px py A H s v w hv ⟨l, e, e1⟩ Q q => by
    cases hv; subst e
    refine ⟨l, _, rfl, .inr (sqt_up s e1), rfl, flat_ints _, ?_⟩
    show Q (.bl (!inV _ _)) H
    rw [inV_ints]
    exact q _ _ A H (Grow.refl s) (k n xs px py) rfl
/-- one sign in a text -/
theorem ev_inS (h : Ev β ta Γ qS ps) (h2 : Ev β tb Γ qS ps2) (k : ∀ z y, ps z → ps2 y → ∃ c : Nat, z = ⟨#[c]⟩ ∧ pb (decide (c ∈ y.cps.toList))) : Ev β (tOp rInS ta tb) Γ qB pb :=
  ev_op h (fun _ _ => h2) fun z y px py A H s v w hv hw Q q => by
    cases hv; cases hw
    obtain ⟨c, e, pc⟩ := k z y px py
    subst e
    exact ⟨c, y, rfl, rfl, q _ _ A H (Grow.refl s) pc rfl⟩

/-! ### walks -/
/-- the target g takes a thing x to the slots js, as e x -/
def Tg (g : TG) (js : List Nat) (r : RP α) (e : α → List Ent) : Prop :=
  ∀ (A H : Hp), Sub A H → ∀ v x, r A v x → ∀ (σ : L2.St) (Q : L2.St → Hp → Prop), (∀ vs C2 H2, Grow none A H C2 H2 → Ents (e x) vs C2 H2 → Q (setsV σ js vs) H2) → g v σ H Q
theorem tg_name [m : Mono r] {j : Nat} : Tg (gName j) [j] r fun x => [sh r x] := fun A H s v x hv σ Q q => q [v] A H (Grow.refl s) (.cons ⟨hv, fun _ z => z⟩ .nil)
theorem tg_pair [m1 : Mono r1] [m2 : Mono r2] {i j : Nat} : Tg (gTup K 2 (gCons (gName i) (gCons (gName j) gNil))) [i, j] (qP r1 r2) fun x => [sh r1 x.1, sh r2 x.2] := fun A H s v x hv σ Q q => by
  obtain ⟨a, v1, v2, rfl, h1, h2, h3⟩ := hv
  exact ⟨a, _, rfl, SqT.of (s _ _ h1), rfl, v1, [v2], rfl, v2, [], rfl, rfl, q [v1, v2] A H (Grow.refl s) (.cons ⟨h2, fun _ z => z⟩ (.cons ⟨h3, fun _ z => z⟩ .nil))⟩
def qTI3 (K : PySem.W.Frag) : RP (Int × Int × Int) := fun A v x => qTI K A v [x.1, x.2.1, x.2.2]
instance : Mono (qTI3 K) := ⟨fun {_ _ v x} l h => Mono.le (r := qTI K) (x := [x.1, x.2.1, x.2.2]) l h⟩
theorem tg_ti3 {i j l : Nat} : Tg (gTup K 3 (gCons (gName i) (gCons (gName j) (gCons (gName l) gNil)))) [i, j, l] (qTI3 K) fun x => [sh qI x.1, sh qI x.2.1, sh qI x.2.2] := fun A H s v x hv σ Q q => by
  obtain ⟨a, rfl, h1⟩ := hv
  exact ⟨a, _, rfl, sqt_up s h1, rfl, _, _, rfl, _, _, rfl, _, _, rfl, rfl, q [_, _, _] A H (Grow.refl s) (.cons ⟨rfl, fun _ z => z⟩ (.cons ⟨rfl, fun _ z => z⟩ (.cons ⟨rfl, fun _ z => z⟩ .nil)))⟩
/-- a tuple of three things -/
def qT3 {κ : Type} (r1 : RP γ) (r2 : RP δ) (r3 : RP κ) : RP (γ × δ × κ) := fun A v x => ∃ (a : Addr) (v1 v2 v3 : V), v = .ref a ∧ A a = some (.tup [v1, v2, v3]) ∧ r1 A v1 x.1 ∧ r2 A v2 x.2.1 ∧ r3 A v3 x.2.2
instance {κ : Type} (r3 : RP κ) [m1 : Mono r1] [m2 : Mono r2] [m3 : Mono r3] : Mono (qT3 r1 r2 r3) := ⟨fun l ⟨a, v1, v2, v3, h1, h2, h3, h4, h5⟩ => ⟨a, v1, v2, v3, h1, l.tup h2, m1.le l h3, m2.le l h4, m3.le l h5⟩⟩
theorem tg_trip {κ : Type} {r3 : RP κ} [m1 : Mono r1] [m2 : Mono r2] [m3 : Mono r3] {i j l : Nat} : Tg (gTup K 3 (gCons (gName i) (gCons (gName j) (gCons (gName l) gNil)))) [i, j, l] (qT3 r1 r2 r3) fun x => [sh r1 x.1, sh r2 x.2.1, sh r3 x.2.2] := fun A H s v x hv σ Q q => by
  obtain ⟨a, v1, v2, v3, rfl, h1, h2, h3, h4⟩ := hv
  exact ⟨a, _, rfl, SqT.of (s _ _ h1), rfl, v1, _, rfl, v2, _, rfl, v3, _, rfl, rfl, q [v1, v2, v3] A H (Grow.refl s) (.cons ⟨h2, fun _ z => z⟩ (.cons ⟨h3, fun _ z => z⟩ (.cons ⟨h4, fun _ z => z⟩ .nil)))⟩
theorem ev_tup3 {κ : Type} {r3 : RP κ} [m1 : Mono r1] [m2 : Mono r2] [m3 : Mono r3] {p1 : γ → Prop} {p2 : δ → Prop} {p3 : κ → Prop} (h1 : Ev β ta Γ r1 p1) (h2 : Ev β tb Γ r2 p2) (h3 : Ev β tc Γ r3 p3) : Ev β (tTup (tCons ta (tCons tb (tCons tc tNil)))) Γ (qT3 r1 r2 r3) fun z => p1 z.1 ∧ p2 z.2.1 ∧ p3 z.2.2 := fun H0 σ A H R Q q =>
  h1 H0 σ A H R _ fun v x B H1 g px rx => h2 H0 σ B H1 (R.grow g) _ fun w y C H2 g2 py ry => h3 H0 σ C H2 ((R.grow g).grow g2) _ fun u z E H3 g3 pz rz => ⟨by show 3 ≤ sizeLine; decide, fun a ha =>
    q (.ref a) (x, y, z) (upd E a (.tup [v, w, u])) _ (((g.trans g2).trans g3).trans (Grow.new g3.sub ha)) ⟨px, py, pz⟩ ⟨a, v, w, u, rfl, upd_same, m1.le ((g2.le.trans g3.le).trans (le_new (g3.sub.no ha))) rx, m2.le (g3.le.trans (le_new (g3.sub.no ha))) ry, m3.le (le_new (g3.sub.no ha)) rz⟩⟩

theorem ei_list [m : Mono r] {p : List α → Prop} {g : TG} {js : List Nat} {e : α → List Ent} (h : Ev β te Γ (rL r) p) (tg : Tg g js r e) : EvI β (iList K te) g Γ js e p := fun H0 σ A H R W k =>
  h H0 σ A H R _ fun v xs B H1 gr px ⟨l, vs, ev, e1, e2⟩ => by
    have hl : vs.length = xs.length := Paired.length e2
    refine ⟨l, ev, ⟨vs, SqL.of (gr.sub _ _ e1)⟩, k _ xs B H1 gr px ⟨fun i C H' hi lc sc => ?_, fun C H' lc sc => ⟨vs, SqL.of (sc _ _ (lc.lst e1)), by simp [hl]⟩, fun i es C H' x H'' hi lc sc y => ?_⟩⟩
    · have hi' : i < vs.length := by rw [hl]; simpa using hi
      exact ⟨vs, vs[i], SqL.of (sc _ _ (lc.lst e1)), List.getElem?_eq_getElem hi'⟩
    · obtain ⟨rfl, y⟩ := y
      have hx := y vs (SqL.of (sc _ _ (lc.lst e1)))
      rw [List.getElem?_map] at hi
      cases hz : xs[i]? with
      | none => rw [hz] at hi; cases hi
      | some z =>
        rw [hz] at hi
        cases (Option.some.inj hi)
        obtain ⟨w, hw, rw'⟩ := paired_at e2 hz
        rw [hx] at hw; cases hw
        exact ⟨C, Grow.refl sc, fun σ Q q => tg C _ sc x z (m.le lc rw') σ Q q⟩
theorem ei_range {g : TG} {js : List Nat} {e : Int → List Ent} (h : Ev β ta Γ qI pi) (hb : ∀ n, pi n → 0 ≤ n ∧ n < 2 ^ 62) (tg : Tg g js qI e) : EvI β (iRng1 (tCons ta tNil)) g Γ js e fun xs => ∃ n, pi n ∧ xs = (List.range n.toNat).map Int.ofNat := fun H0 σ A H R W k =>
  h H0 σ A H R _ fun v n B H1 gr px ev => by
    cases ev
    obtain ⟨b1, b2⟩ := hb n px
    refine ⟨n, rfl, by omega, b2, k _ _ B H1 gr ⟨n, px, rfl⟩ ⟨fun i C H' hi lc sc => by show i < n.toNat; simpa using hi, fun C H' lc sc => by show n.toNat ≤ _; simp, fun i es C H' x H'' hi lc sc y => ?_⟩⟩
    obtain ⟨rfl, rfl⟩ := y
    have hi' : i < n.toNat := by
      have := (List.getElem?_eq_some_iff.mp hi).1
      simpa using this
    rw [List.getElem?_map, List.getElem?_map, List.getElem?_range hi'] at hi
    cases (Option.some.inj hi)
    exact ⟨C, Grow.refl sc, fun σ Q q => tg C _ sc _ _ (by show V.int _ = V.int _; rw [Int.zero_add]; rfl) σ Q q⟩
theorem ei_range2 {g : TG} {js : List Nat} {e : Int → List Ent} {a b : Int} (h : Ev β ta Γ qI (· = a)) (h2 : Ev β tb Γ qI (· = b)) (hb : -(2 ^ 62) ≤ a ∧ a < 2 ^ 62 ∧ -(2 ^ 62) ≤ b ∧ b < 2 ^ 62) (tg : Tg g js qI e) : EvI β (iRng2 (tCons ta (tCons tb tNil))) g Γ js e fun xs => xs = (List.range (b - a).toNat).map fun i : Nat => a + (i : Int) := fun H0 σ A H R W k =>
  h H0 σ A H R _ fun v n B H1 gr px ev => h2 H0 σ B H1 (R.grow gr) _ fun w m C1 H2 gr2 py ew => by
    cases ev; cases ew; cases px; cases py
    refine ⟨a, b, rfl, hb, k _ _ C1 H2 (gr.trans gr2) rfl ⟨fun i C H' hi lc sc => by show i < (b - a).toNat; simpa using hi, fun C H' lc sc => by show (b - a).toNat ≤ _; simp, fun i es C H' x H'' hi lc sc y => ?_⟩⟩
    obtain ⟨rfl, rfl⟩ := y
    have hi' : i < (b - a).toNat := by
      have := (List.getElem?_eq_some_iff.mp hi).1
      simpa using this
    rw [List.getElem?_map, List.getElem?_map, List.getElem?_range hi'] at hi
    cases (Option.some.inj hi)
    exact ⟨C, Grow.refl sc, fun σ Q q => tg C _ sc _ _ rfl σ Q q⟩
theorem ei_zip [m1 : Mono r1] [m2 : Mono r2] {p1 : List γ → Prop} {p2 : List δ → Prop} {g : TG} {js : List Nat} {e : γ × δ → List Ent} (h1 : Ev β ta Γ (rL r1) p1) (h2 : Ev β tb Γ (rL r2) p2) (tg : Tg g js (qP r1 r2) e) :
    EvI β (iZip K (tCons ta (tCons tb tNil))) g Γ js e fun l => ∃ xs ys, p1 xs ∧ p2 ys ∧ l = xs.zip ys := fun H0 σ A H R W k =>
  h1 H0 σ A H R _ fun v xs B H1 gr px ⟨a, vs, ev, e1, e2⟩ => h2 H0 σ B H1 (R.grow gr) _ fun w ys B2 H2 gr2 py ⟨b, ws, ew, f1, f2⟩ => by
    subst ev ew
    have e1 := gr2.le.lst e1
    have l1 : vs.length = xs.length := Paired.length e2
    have l2 : ws.length = ys.length := Paired.length f2
    have W := walk_zip (K := K) (a := a) (b := b) (xs := vs) (ys := ws) (n := (xs.zip ys).length) (by rw [List.length_zip, l1, l2])
    have len : ((xs.zip ys).map e).length = (xs.zip ys).length := List.length_map _
    refine ⟨a, b, vs, ws, rfl, SqL.of (gr2.sub _ _ e1), SqL.of (gr2.sub _ _ f1), k _ _ B2 H2 (gr.trans gr2) ⟨xs, ys, px, py, rfl⟩ ⟨fun i C H' hi lc sc => W.goes i H' (by rw [← len]; exact hi) ⟨SqL.of (sc _ _ (lc.lst e1)), SqL.of (sc _ _ (lc.lst f1))⟩,
      fun C H' lc sc => by rw [len]; exact W.stops H' ⟨SqL.of (sc _ _ (lc.lst e1)), SqL.of (sc _ _ (lc.lst f1))⟩, fun i es C H' x H'' hi lc sc y => ?_⟩⟩
    have hi' : i < (xs.zip ys).length := by
      have := (List.getElem?_eq_some_iff.mp hi).1
      rwa [len] at this
    obtain ⟨T, x1, x2, rfl, hT, rfl, g1, g2⟩ := W.yields i H' x H'' hi' ⟨SqL.of (sc _ _ (lc.lst e1)), SqL.of (sc _ _ (lc.lst f1))⟩ y
    rw [List.getElem?_map, List.getElem?_eq_getElem hi'] at hi
    cases (Option.some.inj hi)
    have hi1 : i < xs.length := by rw [List.length_zip] at hi'; omega
    have hi2 : i < ys.length := by rw [List.length_zip] at hi'; omega
    obtain ⟨u1, q1, q2⟩ := paired_at e2 (List.getElem?_eq_getElem hi1)
    obtain ⟨u2, q3, q4⟩ := paired_at f2 (List.getElem?_eq_getElem hi2)
    have g1 : vs[i]? = some x1 := g1
    have g2 : ws[i]? = some x2 := g2
    rw [g1] at q1; cases q1
    rw [g2] at q3; cases q3
    have lT : Le C (upd C T (.tup [x1, x2])) := le_new (sc.no hT)
    refine ⟨upd C T (.tup [x1, x2]), Grow.new sc hT, fun σ Q q => tg _ _ sc.both _ _ ⟨T, x1, x2, rfl, upd_same, ?_, ?_⟩ σ Q q⟩
    · rw [List.getElem_zip]
      exact m1.le ((gr2.le.trans lc).trans lT) q2
    · rw [List.getElem_zip]
      exact m2.le (lc.trans lT) q4
theorem ei_enum [m : Mono r] {p : List α → Prop} {g : TG} {js : List Nat} {e : Int × α → List Ent} (h : Ev β ta Γ (rL r) p) (tg : Tg g js (qP qI r) e) :
    EvI β (iEnum K (tCons ta tNil)) g Γ js e fun l => ∃ xs, p xs ∧ l = ((List.range xs.length).map Int.ofNat).zip xs := fun H0 σ A H R W k =>
  h H0 σ A H R _ fun v xs B H1 gr px ⟨a, vs, ev, e1, e2⟩ => by
    subst ev
    have l1 : vs.length = xs.length := Paired.length e2
    have W := walk_enum (K := K) (a := a) (xs := vs)
    have len0 : (((List.range xs.length).map Int.ofNat).zip xs).length = vs.length := by simp [l1]
    have len : ((((List.range xs.length).map Int.ofNat).zip xs).map e).length = vs.length := by rw [List.length_map, len0]
    refine ⟨a, vs, rfl, SqL.of (gr.sub _ _ e1), k _ _ B H1 gr ⟨xs, px, rfl⟩ ⟨fun i C H' hi lc sc => W.goes i H' (by rw [← len]; exact hi) (SqL.of (sc _ _ (lc.lst e1))),
      fun C H' lc sc => by rw [len]; exact W.stops H' (SqL.of (sc _ _ (lc.lst e1))), fun i es C H' x H'' hi lc sc y => ?_⟩⟩
    have hi' : i < vs.length := by
      have := (List.getElem?_eq_some_iff.mp hi).1
      rwa [len] at this
    obtain ⟨T, x1, x2, rfl, hT, rfl, g1, g2⟩ := W.yields i H' x H'' hi' (SqL.of (sc _ _ (lc.lst e1))) y
    rw [List.getElem?_map, List.getElem?_eq_getElem (by rw [len0]; exact hi')] at hi
    cases (Option.some.inj hi)
    have hi1 : i < xs.length := by omega
    obtain ⟨u1, q1, q2⟩ := paired_at e2 (List.getElem?_eq_getElem hi1)
    have g2 : vs[i]? = some x2 := g2
    rw [g2] at q1; cases q1
    have g1' : V.int ((i : Nat) : Int) = x1 := Option.some.inj g1
    subst g1'
    have lT : Le C (upd C T (.tup [.int ((i : Nat) : Int), x2])) := le_new (sc.no hT)
    refine ⟨upd C T (.tup [.int ((i : Nat) : Int), x2]), Grow.new sc hT, fun σ Q q => tg _ _ sc.both _ _ ⟨T, _, x2, rfl, upd_same, ?_, ?_⟩ σ Q q⟩
    · rw [List.getElem_zip]
      show V.int _ = V.int _
      simp
    · rw [List.getElem_zip]
      exact m.le (lc.trans lT) q2
/-- over a tuple of whole numbers -/
theorem ei_tupI {p : List Int → Prop} {g : TG} {js : List Nat} {e : Int → List Ent} (h : Ev β te Γ (qTI K) p) (tg : Tg g js qI e) : EvI β (iTup K te) g Γ js e p := fun H0 σ A H R W k =>
  h H0 σ A H R _ fun v xs B H1 gr px ⟨l, ev, e1⟩ => by
    have hl : (xs.map V.int).length = xs.length := List.length_map _
    refine ⟨l, ev, ⟨_, sqt_up gr.sub e1⟩, k _ xs B H1 gr px ⟨fun i C H' hi lc sc => ?_, fun C H' lc sc => ⟨_, sqt_up sc (lc.sqt e1), by simp⟩, fun i es C H' x H'' hi lc sc y => ?_⟩⟩
    · have hi' : i < (xs.map V.int).length := by simpa using hi
      exact ⟨_, _, sqt_up sc (lc.sqt e1), List.getElem?_eq_getElem hi'⟩
    · obtain ⟨rfl, y⟩ := y
      have hx := y _ (sqt_up sc (lc.sqt e1))
      rw [List.getElem?_map] at hi
      cases hz : xs[i]? with
      | none => rw [hz] at hi; cases hi
      | some z =>
        rw [hz] at hi
        cases (Option.some.inj hi)
        rw [List.getElem?_map, hz] at hx
        cases (Option.some.inj hx)
        exact ⟨C, Grow.refl sc, fun σ Q q => tg C _ sc _ z rfl σ Q q⟩
/-- over a text, sign by sign -/
theorem ei_str {g : TG} {js : List Nat} {e : Str → List Ent} (h : Ev β te Γ qS ps) (tg : Tg g js qS e) : EvI β (iStr te) g Γ js e fun l => ∃ z, ps z ∧ l = z.cps.toList.map fun c => ⟨#[c]⟩ := fun H0 σ A H R W k =>
  h H0 σ A H R _ fun v z B H1 gr px ev => by
    cases ev
    refine ⟨z, rfl, k _ _ B H1 gr ⟨z, px, rfl⟩ ⟨fun i C H' hi lc sc => by show i < z.cps.size; simpa using hi, fun C H' lc sc => by show z.cps.size ≤ _; simp, fun i es C H' x H'' hi lc sc y => ?_⟩⟩
    obtain ⟨rfl, c, hc, rfl⟩ := y
    have hc' : z.cps.toList[i]? = some c := by simpa using hc
    rw [List.getElem?_map, List.getElem?_map, hc'] at hi
    cases (Option.some.inj hi)
    exact ⟨C, Grow.refl sc, fun σ Q q => tg C _ sc _ _ rfl σ Q q⟩
end
/-- a, b = e -/
theorem tr_asgT {F : Fr} {Γ : EnvA} {D : Ends} {α : Type} {r : RP α} {te : TE} {u : TS} {p : α → Prop} {g : TG} {js : List Nat} {e : α → List Ent} (h : Ev F.bx te Γ r p) (tg : Tg g js r e) (k : ∀ x, p x → Tr F (setsE Γ js (e x)) u D) : Tr F Γ (tSeq (tAsg te g) u) D := fun σ H ⟨A, l, gr, R⟩ =>
  h F.H0 σ A H R _ fun v x B H' g2 px rx => tg B H' g2.sub v x rx σ _ fun vs C2 H2 g3 ee => k x px _ _ ⟨C2, (l.trans g2.le).trans g3.le, (gr.trans g2).trans g3.free, ((R.grow g2).grow g3.free).sets ee⟩
end Rf
/-! Cal5: the text's facts as one bundle; rules whose readings name the bundle's letters alone (so that they stand in blocks); defs. -/
namespace Rf
open PySem PySem.Spec L2

structure Tx where
  P : Program
  w : World
  K : PySem.W.Frag
  mg : Str → Option Value
  base : Heap
structure At (X : Cx) (T : Tx) : Prop where
  p : X.prog = T.P
  w : X.w = T.w
  k : X.K = T.K
  m : X.mg = T.mg
  b : X.base = T.base
/-- a def that may be called by its name -/
structure Cl (T : Tx) (k : Nat) (x : Str) (sp : Sp) : Prop where
  ex : ∃ (f : Addr) (fd : FuncData) (ps : List Str), FnOk T.P T.w T.K T.mg T.base CX0 k f fd ps sp ∧ T.mg x = some (.ref f) ∧ PySem.W.keepIn T.K (.ref f) = true ∧ Binds T.K fd ps []
/-- a def as it stands behind the top -/
structure Dn (T : Tx) (x : Str) (st : Stmt) : Prop where
  ex : ∃ (f : Addr) (fd : FuncData), FunD T.K x x (defArgs st) (defBody st) (defScope st) [] [] f fd ∧ T.mg x = some (.ref f)

section
variable {X : Cx} {T : Tx} {K : PySem.W.Frag} {a b e o tg : Expr} {es : List Expr} {ta tb te to : TE} {t : TA} {p pos p2 apos cpos : Pos} {x : Str}
theorem at0 {N : List Str} {qual : Str} {scope : Scope} {f : Addr} {cd : Value} {A : Around} {outer : List Env} {s : Shared} {H : Hp} {E : XK} : At (cxOf CX0 T.P T.w T.K T.mg T.base N qual scope f cd A outer s H E).nox T := ⟨rfl, rfl, rfl, rfl, rfl⟩
/-- a call of a def -/
theorem pc {k j : Nat} {sp : Sp} (c : Cl T k x sp) (hA : At X T) (hr : Room j X.A) (hk : k ≤ j) (hg : Gl X x) (ha : PA X (e :: es) t)
    (hdb : (x == ("__debug__" : Str)) = false := by decide) (he : starEach (e :: es) X.env = (false, eval e X.env) :: starEach es X.env := by rfl) (hpl : (backTo pos (starEach es X.env)).any (·.1) = false := by rfl) :
    PE X (.Call (.Name x p) (e :: es) [] pos) (tCall sp [] E0 t) := by
  obtain ⟨f, fd, ps, F, hm, kp, bd⟩ := c.ex
  obtain ⟨h1, h2, h3, h4, h5⟩ := hA
  rw [← h1, ← h2, ← h3, ← h4, ← h5] at F
  rw [← h3] at kp bd
  rw [← h4] at hm
  exact pe_call F (hr.mono hk) hg hm kp bd .nil pass0 ha hdb he hpl
/-- a call of a built-in function, of a built-in class -/
theorem pb {id : String} {r : List V → Hp → VK → Prop} (hA : At X T) (hc : CallR X (.builtin id) r) (hg : Gl X x) (hm : T.mg x = none) (hv : bootBuiltins x = some (.builtin id)) (ha : PA X (e :: es) t) (hn : x ≠ "__name__" := by decide) (hdb : (x == ("__debug__" : Str)) = false := by decide)
    (he : starEach (e :: es) X.env = (false, eval e X.env) :: starEach es X.env := by rfl) (hpl : (backTo pos (starEach es X.env)).any (·.1) = false := by rfl) : PE X (.Call (.Name x p) (e :: es) [] pos) (tCB r t) :=
  pe_callB hc hg (by rw [hA.m]; exact hm) hv ha hn hdb he hpl
theorem pbT {id : String} {r : List V → Hp → VK → Prop} (hA : At X T) (hc : CallR X (.type id) r) (hg : Gl X x) (hm : T.mg x = none) (hv : bootBuiltins x = some (.type id)) (ha : PA X (e :: es) t) (hn : x ≠ "__name__" := by decide) (hdb : (x == ("__debug__" : Str)) = false := by decide)
    (he : starEach (e :: es) X.env = (false, eval e X.env) :: starEach es X.env := by rfl) (hpl : (backTo pos (starEach es X.env)).any (·.1) = false := by rfl) : PE X (.Call (.Name x p) (e :: es) [] pos) (tCB r t) :=
  pe_callTy hc hg (by rw [hA.m]; exact hm) hv ha hn hdb he hpl
theorem pbG {id : String} {r : List V → Hp → VK → Prop} (hA : At X T) (hc : CallR X (.builtin id) r) (hg : Gl X x) (hm : T.mg x = some (.builtin id)) (ha : PA X (e :: es) t) (hdb : (x == ("__debug__" : Str)) = false := by decide)
    (he : starEach (e :: es) X.env = (false, eval e X.env) :: starEach es X.env := by rfl) (hpl : (backTo pos (starEach es X.env)).any (·.1) = false := by rfl) : PE X (.Call (.Name x p) (e :: es) [] pos) (tCB r t) :=
  pe_callBfun hc hg (by rw [hA.m]; exact hm) ha hdb he hpl
/-- a name of the module -/
theorem pgl {v : V} (hA : At X T) (hg : Gl X x) (hm : ∃ u, T.mg x = some u ∧ RelV v u) (hd : (x == ("__debug__" : Str)) = false := by decide) : PE X (.Name x pos) (tC v) := by
  obtain ⟨u, h1, h2⟩ := hm
  exact pe_glob hg (by rw [hA.m]; exact h1) h2 hd
theorem cLen (hA : At X T) : CallR X (.builtin "len") (rLen2 T.K) := by rw [← hA.k]; exact call_len_seq
theorem cLenS : CallR X (.builtin "len") rLenStr := call_len_str
theorem cInt : CallR X (.type "int") rInt1 := call_int1
theorem cAbs : CallR X (.builtin "abs") rAbs1 := call_abs
theorem cList (hA : At X T) : CallR X (.type "list") (rList1 T.K) := by rw [← hA.k]; exact call_list_of
theorem cTuple (hA : At X T) : CallR X (.type "tuple") (rTuple1 T.K) := by rw [← hA.k]; exact call_tuple_of
theorem cSum (hA : At X T) (hc : X.calm = true) : CallR X (.builtin "sum") (rSum T.K) := by rw [← hA.k]; exact cr_sum hc
theorem cMin (hA : At X T) (hc : X.calm = true) : CallR X (.builtin "min") (rMin T.K) := by rw [← hA.k]; exact cr_min hc
theorem cAny (hA : At X T) (hc : X.calm = true) : CallR X (.builtin "any") (rAny T.K) := by rw [← hA.k]; exact cr_any hc
theorem cAll (hA : At X T) (hc : X.calm = true) : CallR X (.builtin "all") (rAll T.K) := by rw [← hA.k]; exact cr_all hc
theorem oIn (hA : At X T) : OpR X (compareOp .In) (rIn T.K false) := by rw [← hA.k]; exact op_in_seq
theorem oNotIn (hA : At X T) : OpR X (compareOp .NotIn) (rIn T.K true) := by rw [← hA.k]; exact op_notIn_seq
theorem oEqD (hA : At X T) {k : Nat} (hr : Room k X.A) : OpR X (compareOp .Eq) (rEqD T.K) := by rw [← hA.k]; exact op_eqD (by have := hr.un; omega)
theorem oNeD (hA : At X T) {k : Nat} (hr : Room k X.A) : OpR X (compareOp .NotEq) (rNeD T.K) := by rw [← hA.k]; exact op_neD (by have := hr.un; omega)
theorem oNotInD (hA : At X T) {k : Nat} (hr : Room k X.A) : OpR X (compareOp .NotIn) (rNotInD T.K) := by rw [← hA.k]; exact op_notInD (by have := hr.un; omega)
theorem ixL (hA : At X T) (ha : PE X a ta) (hb : PE X b tb) (hs : PlainIx b := by intro _ _; rfl) : PE X (.Subscript a b pos) (tOp (rIxL T.K) ta tb) := by rw [← hA.k]; exact pe_ix ix_list ha hb hs
theorem ixT (hA : At X T) (ha : PE X a ta) (hb : PE X b tb) (hs : PlainIx b := by intro _ _; rfl) : PE X (.Subscript a b pos) (tOp (rIxT T.K) ta tb) := by rw [← hA.k]; exact pe_ix ix_tup ha hb hs
theorem ixS (ha : PE X a ta) (hb : PE X b tb) (hs : PlainIx b := by intro _ _; rfl) : PE X (.Subscript a b pos) (tOp rIxS ta tb) := pe_ix ix_str ha hb hs
theorem pfld {f : Str} (hA : At X T) (he : PE X e ta) (hb : attributeBase e f X.env (eval e X.env) = eval e X.env := by rfl) : PE X (.Attribute e f pos) (tFld T.K ta f) := by rw [← hA.k]; exact pe_fld he hb
theorem pgT {es : List Expr} {k : Nat} {t : TGs} (n : Nat) (hA : At X T) (hc : X.calm = true) (h : PGs X es t) (hn : (assignEach es X.env).length = n := by rfl) (hst : (assignEach es X.env).findIdx? (·.1) = none := by rfl) : PG X (.Tuple es k pos) (gTup T.K n t) := by rw [← hA.k]; exact pg_tup hc h hn hst
theorem pgS {i : Expr} {ti : TE} (ho : PE X o to) (hi : PE X i ti)
    (ha : ∀ v, assign (.Subscript o i pos) X.env v = (do
      let ov ← holding [v] (eval o X.env)
      let iv ← holding [v, ov] (eval i X.env)
      standAt pos
      holding [v, ov, iv] (setItem ov iv v)
      release [v, ov, iv] []) := by intro _; rfl) : PG X (.Subscript o i pos) (gSub to ti rSetL) := pg_sub ho hi set_list ha
theorem piL (hA : At X T) (hl : PE X e te) : PI X tg e (iList T.K te) := by rw [← hA.k]; exact pi_list hl
theorem piT (hA : At X T) (hl : PE X e te) : PI X tg e (iTup T.K te) := by rw [← hA.k]; exact pi_tup hl
theorem piS (hl : PE X e te) : PI X tg e (iStr te) := pi_str hl
theorem piR (hA : At X T) (hg : Gl X "range") (hm : T.mg "range" = none) (ha : PA X [a] t) (hs : starEach [a] X.env = [(false, eval a X.env)] := by rfl) : PI X tg (.Call (.Name "range" p) [a] [] pos) (iRng1 t) := pi_range1 hg (by rw [hA.m]; exact hm) ha hs
theorem piR2 (hA : At X T) (hg : Gl X "range") (hm : T.mg "range" = none) (ha : PA X [a, b] t) (hs : starEach [a, b] X.env = [(false, eval a X.env), (false, eval b X.env)] := by rfl) (hs2 : starEach [b] X.env = [(false, eval b X.env)] := by rfl) : PI X tg (.Call (.Name "range" p) [a, b] [] pos) (iRng2 t) :=
  pi_range2 hg (by rw [hA.m]; exact hm) ha hs hs2
theorem piZ {tpos : Pos} {elts : List Expr} {kk : Nat} (hA : At X T) (hg : Gl X "zip") (hm : T.mg "zip" = none) (ha : PA X [a, b] t)
    (hs : starEach [a, b] X.env = (false, eval a X.env) :: starEach [b] X.env := by rfl) (hpl : (backTo pos (starEach [b] X.env)).any (·.1) = false := by rfl) :
    PI X (.Tuple elts kk tpos) (.Call (.Name "zip" p) [a, b] [] pos) (iZip T.K t) := by rw [← hA.k]; exact pi_zip hg (by rw [hA.m]; exact hm) ha hs hpl
theorem piE {tpos : Pos} {elts : List Expr} {kk : Nat} (hA : At X T) (hg : Gl X "enumerate") (hm : T.mg "enumerate" = none) (ha : PA X [a] t) (hs : starEach [a] X.env = [(false, eval a X.env)] := by rfl) :
    PI X (.Tuple elts kk tpos) (.Call (.Name "enumerate" p) [a] [] pos) (iEnum T.K t) := by rw [← hA.k]; exact pi_enum hg (by rw [hA.m]; exact hm) ha hs
theorem pmAppend (hA : At X T) (ho : PE X o to) (ha : PA X [e] t) (hbase : attributeBase o "append" X.env (eval o X.env) = eval o X.env := by rfl)
    (hfew : ((backTo cpos (starEach [e] X.env)).all (fun x => !x.1) && (backToKw cpos (keywordEach [] X.env)).all (fun x => x.1.isSome) && decide (([e] : List Expr).length + ([] : List Keyword).length + (if ([] : List Keyword).isEmpty then 0 else 1) < 30)) = true := by rfl)
    (hline : (apos.endLine == cpos.line) = true := by rfl) (hs : starEach [e] X.env = (false, eval e X.env) :: starEach [] X.env := by rfl) (hplain : (backTo cpos (starEach [] X.env)).any (·.1) = false := by rfl) :
    PE X (.Call (.Attribute o "append" apos) [e] [] cpos) (tBM T.K "list" rAppend to t) := by rw [← hA.k]; exact pe_bm PySem.F.plainAttrs_list PySem.F.slot_list_append PySem.F.type_list_append mt_append ho ha hbase hfew hline hs hplain
theorem pmExtend (hA : At X T) (ho : PE X o to) (ha : PA X [e] t) (hbase : attributeBase o "extend" X.env (eval o X.env) = eval o X.env := by rfl)
    (hfew : ((backTo cpos (starEach [e] X.env)).all (fun x => !x.1) && (backToKw cpos (keywordEach [] X.env)).all (fun x => x.1.isSome) && decide (([e] : List Expr).length + ([] : List Keyword).length + (if ([] : List Keyword).isEmpty then 0 else 1) < 30)) = true := by rfl)
    (hline : (apos.endLine == cpos.line) = true := by rfl) (hs : starEach [e] X.env = (false, eval e X.env) :: starEach [] X.env := by rfl) (hplain : (backTo cpos (starEach [] X.env)).any (·.1) = false := by rfl) :
    PE X (.Call (.Attribute o "extend" apos) [e] [] cpos) (tBM T.K "list" rExtend to t) := by rw [← hA.k]; exact pe_bm PySem.F.plainAttrs_list PySem.F.slot_list_extend PySem.F.type_list_extend mt_extend ho ha hbase hfew hline hs hplain
def rJoin (K : PySem.W.Frag) : V → List V → Hp → VK → Prop := fun x xs H Q => ∃ a p, ∃ ys : List Str, x = .str a ∧ xs = [.ref p] ∧ (SqL K H p (ys.map V.str) ∨ SqT K H p (ys.map V.str)) ∧ (ys.map (·.length)).sum + ys.length * a.length ≤ 16777216 ∧ Q (.str (Txt.join a ys)) H
theorem pmJoin (hA : At X T) (ho : PE X o to) (ha : PA X [e] t) (hbase : attributeBase o "join" X.env (eval o X.env) = eval o X.env := by rfl)
    (hfew : ((backTo cpos (starEach [e] X.env)).all (fun x => !x.1) && (backToKw cpos (keywordEach [] X.env)).all (fun x => x.1.isSome) && decide (([e] : List Expr).length + ([] : List Keyword).length + (if ([] : List Keyword).isEmpty then 0 else 1) < 30)) = true := by rfl)
    (hline : (apos.endLine == cpos.line) = true := by rfl) (hs : starEach [e] X.env = (false, eval e X.env) :: starEach [] X.env := by rfl) (hplain : (backTo cpos (starEach [] X.env)).any (·.1) = false := by rfl) :
    PE X (.Call (.Attribute o "join" apos) [e] [] cpos) (tBM T.K "str" (rJoin T.K) to t) := by rw [← hA.k]; exact pe_bm PySem.F.plainAttrs_str PySem.F.slot_str_join PySem.F.type_str_join mt_join ho ha hbase hfew hline hs hplain
theorem pRev {k : Nat} {p1 p2 p3 pos : Pos} (hA : At X T) (he : PE X e te) : PE X (.Subscript e (.Slice none none (some (.UnaryOp .USub (.Constant (.int 1) k p1) p2)) p3) pos) (tRevL T.K te) := by rw [← hA.k]; exact pe_revL he
theorem ptru (hA : At X T) (ha : PE X a ta) (he : ∀ whole, isTrue a X.env whole = (do let v ← whole; standAt a.pos; holding [v] (truthy v)) := by intro _; rfl) : PT X a (tTru T.K ta) := by
  have h := pt_truth ha he
  rw [hA.k] at h
  exact h
theorem cIsi (hA : At X T) : CallR X (.builtin "isinstance") (rIsi T.K) := by rw [← hA.k]; exact call_isi
end

/-- THE RULE for a def -/
theorem cl_def {T : Tx} {x : Str} {st : Stmt} {N ps : List Str} {k : Nat} {ι δ : Type} {bx : ι → Option Addr} {args : ι → List Ent} {pre : ι → Prop} {r : RP δ} {post : ι → δ → Prop} (F : Dn T x st) (Sc : FnScope N ps (defScope st))
    (hb : ∀ (kV doc pm : Value) (an : Option Addr) (cdv ct : Value) (us : List Value), us.length = ps.length → bindArgs (PySem.W.fnOf x x (defArgs st) (defBody st) (defScope st) .none kV doc pm an cdv ct) ⟨us, []⟩ = pure (ps.zip us))
    (len : ∀ g, (args g).length = ps.length)
    (body : ∀ (f : Addr) (cdv : Value) (A : Around) (outer : List Env) (s : Shared) (H : Hp) (E : XK), Room k (A.deeper (PyProof.Rows.envOfC x (defScope st) s.heap.objs.size f cdv)) →
      ∃ t, PSs (cxOf CX0 T.P T.w T.K T.mg T.base N x (defScope st) f cdv A outer s H E).nox (defBody st) t ∧
        ∀ (g : ι) (Fm : Fr) (D : Ends), Fm.bx = bx g → pre g → Rt Fm r (post g) D.rt → (∀ σ H', D.nx σ H' = D.rt .non H') → Tr Fm (startE N (args g)) t D) :
    Cl T (k + 1) x (spOf bx args pre r post) := by
  obtain ⟨f, fd, G, hm⟩ := F.ex
  refine ⟨f, fd, ps, G.ok Sc (fun vs H Q E h => ?_) (fun cdv A outer s H vs Q E hr h => ?_), hm, G.kp, G.bindsN hb⟩
  · obtain ⟨g, A, _, _, he, _⟩ := h
    have q : vs.length = (args g).length := Paired.length he
    rw [q, len]
  · obtain ⟨t, ht, q⟩ := body f cdv A outer s H E hr
    refine ⟨t, ht.nox, ?_⟩
    obtain ⟨g, A1, h1, h2, h3, h4, h5⟩ := h
    exact q g ⟨bx g, A1, H, A1⟩ _ rfl h4 (fun v x B H' g1 p1 r1 => h5 v x B H' g1 p1 r1) (fun _ _ => rfl) _ _ ⟨A1, Le.refl, Grow.refl h1, rel_start h1 h2 h3⟩
end Rf
/-! Zx: zip over lists, tuples, texts, two and three of them. -/
namespace Rf
open PySem PySem.Spec PyProof.Rows L2

/-- an iterator over the things xs, made of something of which G says that it stands -/
structure Src (P : Program) (w : World) (K : PySem.W.Frag) (G : Hp → Prop) (xs : List V) (ex : List Addr) (tn : Addr → Nat → Heap → Prop) : Prop where
  obj : ∀ it i h, tn it i h → ∃ o, h.get? it = some o ∧ ∀ v, o.data ≠ .cell v
  keep : ∀ it i h h', tn it i h → (∀ o, h.get? it = some o → h'.get? it = some o) → tn it i h'
  step : ∀ (X : Cx) (pins : List (Addr × Obj)) (σ : L2.St) (H : Hp) (s : Shared) (it : Addr) (i : Nat), X.prog = P → X.w = w → X.K = K → X.calm = true → Inv X pins σ H s → G H → it ∉ ex → tn it i s.heap →
    ∃ (Pv : Nat → Value → Prop) (St : Nat → Heap → Prop), Draws P w X.A.in1 it (it :: ex) xs.length Pv St ∧ St i s.heap ∧ (∀ j h, St j h → tn it j h) ∧ ∀ j u, Pv j u → ∃ x, xs[j]? = some x ∧ RelV x u
structure Beg (P : Program) (w : World) (K : PySem.W.Frag) (G : Hp → Prop) (x : V) (xs : List V) : Prop where
  beg : ∀ (X : Cx) (pins : List (Addr × Obj)) (σ : L2.St) (H : Hp) (s : Shared) (u : Value), X.prog = P → X.w = w → X.K = K → Inv X pins σ H s → G H → RelV x u →
    ∃ (o : Obj) (HB : Heap → Prop) (ex : List Addr) (tn : Addr → Nat → Heap → Prop), Begins u o HB ∧ HB s.heap ∧ (∀ b ∈ ex, b < s.heap.objs.size) ∧ Src P w K G xs ex tn ∧ ∀ it h, h.get? it = some o → tn it 0 h
section
variable {P : Program} {w : World} {K : PySem.W.Frag}
theorem beg_list {a : Addr} {xs : List V} : Beg P w K (fun H => SqL K H a xs) (.ref a) xs where
  beg := fun X pins σ H s u hP hw hK I g r => by
    subst hP hw hK
    cases r
    obtain ⟨its, rv, p, _⟩ := I.list g
    refine ⟨_, _, [a], fun it i h => h.IsListIter it a i, begins_list a its.toArray, p.isList, fun b hb => by cases List.mem_singleton.mp hb; exact p.lt, ⟨fun it i h ⟨o, e, c, d⟩ => ⟨o, e, fun v z => by rw [d] at z; cases z⟩, fun it i h h' st k => st.at fun o e => k o e, ?_⟩, fun it h e => ⟨_, e, rfl, rfl⟩⟩
    intro X' pins' σ' H' s' it i hP hw hK hc I' g' hit st
    obtain ⟨its', rv', p', _⟩ := I'.list (hK ▸ g')
    have hne : a ≠ it := fun z => hit (by simp [z])
    have D := Draws.list (prog := X.prog) (w := X.w) (A := X'.A.in1) (I'.ok.hd hc) it a hne its'.toArray
    have e : its'.toArray.size = xs.length := by have := rv'.length; simp only [List.size_toArray]; omega
    rw [e] at D
    refine ⟨_, _, D, ⟨st, p'.isList⟩, fun j h q => q.1, fun j u q => ?_⟩
    have q' : its'[j]? = some u := by simpa using q
    have hj : j < xs.length := by have := (List.getElem?_eq_some_iff.mp q').1; have := rv'.length; omega
    obtain ⟨u', h1, h2⟩ := rv'.get (List.getElem?_eq_getElem hj)
    rw [q'] at h1; cases h1
    exact ⟨_, List.getElem?_eq_getElem hj, h2⟩
theorem beg_tup {a : Addr} {xs : List V} : Beg P w K (fun H => SqT K H a xs) (.ref a) xs where
  beg := fun X pins σ H s u hP hw hK I g r => by
    subst hP hw hK
    cases r
    obtain ⟨its, rv, p, _⟩ := I.tuple g
    have hlt : a < s.heap.objs.size := by obtain ⟨o, e, _⟩ := id p; exact Heap.lt_size e
    refine ⟨_, _, [a], fun it i h => h.IsTupleIter it a i, begins_tuple a its.toArray, p, fun b hb => by cases List.mem_singleton.mp hb; exact hlt, ⟨fun it i h ⟨o, e, c, d⟩ => ⟨o, e, fun v z => by rw [d] at z; cases z⟩, fun it i h h' st k => st.at fun o e => k o e, ?_⟩, fun it h e => ⟨_, e, rfl, rfl⟩⟩
    intro X' pins' σ' H' s' it i hP hw hK hc I' g' hit st
    obtain ⟨its', rv', p', _⟩ := I'.tuple (hK ▸ g')
    have hne : a ≠ it := fun z => hit (by simp [z])
    have D := Draws.tuple (prog := X.prog) (w := X.w) (A := X'.A.in1) (I'.ok.hd hc) it a hne its'.toArray
    have e : its'.toArray.size = xs.length := by have := rv'.length; simp only [List.size_toArray]; omega
    rw [e] at D
    refine ⟨_, _, D, ⟨st, p'⟩, fun j h q => q.1, fun j u q => ?_⟩
    have q' : its'[j]? = some u := by simpa using q
    have hj : j < xs.length := by have := (List.getElem?_eq_some_iff.mp q').1; have := rv'.length; omega
    obtain ⟨u', h1, h2⟩ := rv'.get (List.getElem?_eq_getElem hj)
    rw [q'] at h1; cases h1
    exact ⟨_, List.getElem?_eq_getElem hj, h2⟩
theorem beg_text {z : Str} : Beg P w K (fun _ => True) (.str z) (z.cps.toList.map fun c => .str ⟨#[c]⟩) where
  beg := fun X pins σ H s u hP hw hK I g r => by
    subst hP hw hK
    obtain ⟨t, rfl⟩ := r
    refine ⟨_, _, [], fun it i h => h.IsStrIter it (strIterType z) z t i, begins_text z t, trivial, (fun b hb => nomatch hb), ⟨fun it i h ⟨o, e, c, d⟩ => ⟨o, e, fun v z => by rw [d] at z; cases z⟩, fun it i h h' st k => let ⟨o, ho, r⟩ := st; ⟨o, k o ho, r⟩, ?_⟩, fun it h e => ⟨_, e, rfl, rfl⟩⟩
    intro X' pins' σ' H' s' it i hP hw hK hc I' g' hit st
    have D := Draws.text (prog := X.prog) (w := X.w) (A := X'.A.in1) (I'.ok.hd hc) it z t
    have e : z.cps.size = (z.cps.toList.map fun c => V.str ⟨#[c]⟩).length := by simp
    rw [e] at D
    refine ⟨_, _, D, st, fun j h q => q, fun j u q => ?_⟩
    obtain ⟨c, u', q1, rfl⟩ := q
    exact ⟨.str ⟨#[c]⟩, by rw [List.getElem?_map, Array.getElem?_toList, q1]; rfl, ⟨u', rfl⟩⟩

/-- the pairs -/
def Itz2 (G1 G2 : Hp → Prop) (xs ys : List V) : It :=
  ⟨fun i H => G1 H ∧ G2 H ∧ i < (xs.zip ys).length, fun i H v H' => ∃ T x y, v = .ref T ∧ H T = none ∧ H' = upd H T (.tup [x, y]) ∧ xs[i]? = some x ∧ ys[i]? = some y, fun i H => G1 H ∧ G2 H ∧ i = (xs.zip ys).length⟩
def Itz3 (G1 G2 G3 : Hp → Prop) (xs ys zs : List V) : It :=
  ⟨fun i H => G1 H ∧ G2 H ∧ G3 H ∧ i < min (min xs.length ys.length) zs.length, fun i H v H' => ∃ T x y u, v = .ref T ∧ H T = none ∧ H' = upd H T (.tup [x, y, u]) ∧ xs[i]? = some x ∧ ys[i]? = some y ∧ zs[i]? = some u,
    fun i H => G1 H ∧ G2 H ∧ G3 H ∧ i = min (min xs.length ys.length) zs.length⟩
theorem turn_z2 {elts : List Expr} {kk : Nat} {tpos : Pos} {G1 G2 : Hp → Prop} {xs ys : List V} {ex1 ex2 : List Addr} {tn1 tn2 : Addr → Nat → Heap → Prop} {N : Nat} (s1 : Src P w K G1 xs ex1 tn1) (s2 : Src P w K G2 ys ex2 tn2) (h1 : ∀ b ∈ ex1, b < N) (h2 : ∀ b ∈ ex2, b < N) :
    Turn P w K (.Tuple elts kk tpos) (Itz2 G1 G2 xs ys) [N + 4, N + 2, N + 3, N, N + 1] (N + 4) (fun i h => IsZip h (N + 4) (N + 2) (N + 3) .none ∧ IsTupOf2 h (N + 2) (.ref (N : Nat)) (.ref ((N + 1 : Nat) : Addr)) ∧ (∃ x y, IsTupOf2 h (N + 3) x y) ∧ tn1 N i h ∧ tn2 (N + 1) i h) where
  mem := List.mem_cons_self ..
  obj := fun i h st c hc => by
    obtain ⟨hz, hTI, ⟨x, y, hTO⟩, g1, g2⟩ := st
    simp only [List.mem_cons, List.not_mem_nil, or_false] at hc
    rcases hc with q | q | q | q | q <;> subst q
    · exact ⟨_, hz, fun v q => nomatch q⟩
    · exact ⟨_, hTI, fun v q => nomatch q⟩
    · exact ⟨_, hTO, fun v q => nomatch q⟩
    · exact s1.obj _ _ _ g1
    · exact s2.obj _ _ _ g2
  keep := fun i h h' st k => by
    obtain ⟨hz, hTI, ⟨x, y, hTO⟩, g1, g2⟩ := st
    exact ⟨k _ (by simp) _ hz, k _ (by simp) _ hTI, ⟨x, y, k _ (by simp) _ hTO⟩, s1.keep _ _ _ _ g1 fun o q => k N (by simp) o q, s2.keep _ _ _ _ g2 fun o q => k (N + 1) (by simp) o q⟩
  item := by
    intro X hP hw hK hc i pins s σ H E I hf st hg
    obtain ⟨hz, hTI, ⟨x0, y0, hTO⟩, g1, g2⟩ := st
    obtain ⟨q1, q2, hi⟩ := hg
    have hi1 : i < xs.length := by rw [List.length_zip] at hi; omega
    have hi2 : i < ys.length := by rw [List.length_zip] at hi; omega
    have Z := zip_sep2 (N := N) h1 h2
    have n1 : N ∉ ex1 := fun z => Nat.lt_irrefl _ (h1 _ z)
    have n2 : N + 1 ∉ ex2 := fun z => absurd (h2 _ z) (by show ¬ (N + 1 < N); omega)
    obtain ⟨P1, S1, D1, a1, b1, c1⟩ := s1.step X pins σ H s N i hP hw hK hc I q1 n1 g1
    obtain ⟨P2, S2, D2, a2, b2, c2⟩ := s2.step X pins σ H s (N + 1) i hP hw hK hc I q2 n2 g2
    have hzl : (N + 4 : Nat) < s.heap.objs.size := Heap.lt_size hz
    refine wpAny_pyNext_zipD2_item Z D1 D2 hz hTI hTO a1 a2 hi1 hi2 fun u1 u2 h' tk p1 p2 z' TO' t1 t2 hT hsz hk => ?_
    obtain ⟨x, hx, rx⟩ := c1 _ _ p1
    obtain ⟨y, hy, ry⟩ := c2 _ _ p2
    refine ⟨_, rfl, wpAny_letOwnedTupleGo_zip (s := { s with heap := h', toks := tk }) z' fun h'' z'' sb => ?_⟩
    have hT2 : h''.get? s.heap.objs.size = some { cls := .type "tuple", data := .seq #[u1, u2] } := (sb.2 _ (Nat.ne_of_gt hzl)).trans hT
    have new : ObjOk X.prog X.w (upd H s.heap.objs.size (.tup [x, y])) h'' s.heap.objs.size (.tup [x, y]) :=
      ⟨by show 2 ≤ sizeLine; decide, [u1, u2], .cons rx (.cons ry .nil), ⟨_, hT2, rfl, _, rfl⟩⟩
    have I1 : Inv X pins σ (upd H s.heap.objs.size (.tup [x, y])) { s with heap := h'', toks := tk } :=
      I.turnedNew (t' := tk) (ch := [N + 4, N + 2, N + 3, N, N + 1]) (fun c o hb q => (sb.2 c (fun q' => hb (by simp [q']))).trans (hk c o (fun q' => hb (by simp [q'])) (fun q' => hb (by simp [q'])) (fun q' => hb (by simp [q'])) (fun q' => hb (by simp [q'])) q)) hf (Nat.le_refl _) new
    refine ⟨.ref s.heap.objs.size, _, I1, rfl, ⟨_, x, y, rfl, I.hok.fresh (Nat.le_refl _), rfl, hx, hy⟩, ⟨z'', ?_, ⟨u1, u2, ?_⟩, ?_, ?_⟩, fun c hcm => ?_⟩
    · exact (sb.2 _ Z.TIz).trans (hk _ _ Z.TIz Z.TITO Z.TIi1 Z.TIi2 hTI)
    · exact (sb.2 _ Z.TOz).trans TO'
    · refine s1.keep _ _ _ _ (b1 _ _ t1) fun o q => (sb.2 _ ?_).trans q
      show (N : Nat) ≠ N + 4; omega
    · refine s2.keep _ _ _ _ (b2 _ _ t2) fun o q => (sb.2 _ ?_).trans q
      show (N + 1 : Nat) ≠ N + 4; omega
    · have hlt : c < s.heap.objs.size := by
        simp only [List.mem_cons, List.not_mem_nil, or_false] at hcm
        have : (c : Nat) ≤ N + 4 := by
          rcases hcm with q | q | q | q | q <;> subst q <;> (first | exact Nat.le_refl _ | exact Nat.le_add_right _ _ | (show (_ : Nat) ≤ _; omega))
        exact Nat.lt_of_le_of_lt this hzl
      rw [upd_ne (Nat.ne_of_lt hlt)]
      exact (hf c hcm).1
  done := by
    intro X hP hw hK hc i pins s σ H E I hf st hg
    obtain ⟨hz, hTI, ⟨x0, y0, hTO⟩, g1, g2⟩ := st
    obtain ⟨q1, q2, hi⟩ := hg
    rw [List.length_zip] at hi
    have n1 : N ∉ ex1 := fun z => Nat.lt_irrefl _ (h1 _ z)
    have n2 : N + 1 ∉ ex2 := fun z => absurd (h2 _ z) (by show ¬ (N + 1 < N); omega)
    obtain ⟨P1, S1, D1, a1, b1, c1⟩ := s1.step X pins σ H s N i hP hw hK hc I q1 n1 g1
    obtain ⟨P2, S2, D2, a2, b2, c2⟩ := s2.step X pins σ H s (N + 1) i hP hw hK hc I q2 n2 g2
    exact wpAny_pyNext_zipD2_end (zip_sep2 (N := N) h1 h2) D1 D2 hz hTI hTO a1 a2 (by omega) (by omega) (by omega) fun h' tk hk => ⟨rfl, I.turnedL (t' := tk) (ch := [N + 4, N + 2, N + 3, N, N + 1]) (fun c o hb q =>
      hk c o (fun q' => hb (by simp [q'])) (fun q' => hb (by simp [q'])) (fun q' => hb (by simp [q'])) (fun q' => hb (by simp [q'])) q) hf⟩
  self := fun A i s Q E st h => wpAny_pyIter_zip st.1 h
theorem turn_z3 {elts : List Expr} {kk : Nat} {tpos : Pos} {G1 G2 G3 : Hp → Prop} {xs ys zs : List V} {ex1 ex2 ex3 : List Addr} {tn1 tn2 tn3 : Addr → Nat → Heap → Prop} {N : Nat} (s1 : Src P w K G1 xs ex1 tn1) (s2 : Src P w K G2 ys ex2 tn2) (s3 : Src P w K G3 zs ex3 tn3) (h1 : ∀ b ∈ ex1, b < N) (h2 : ∀ b ∈ ex2, b < N) (h3 : ∀ b ∈ ex3, b < N) :
    Turn P w K (.Tuple elts kk tpos) (Itz3 G1 G2 G3 xs ys zs) [N + 5, N + 3, N + 4, N, N + 1, N + 2] (N + 5) (fun i h => IsZip h (N + 5) (N + 3) (N + 4) .none ∧ IsTupOf3 h (N + 3) (.ref (N : Nat)) (.ref ((N + 1 : Nat) : Addr)) (.ref ((N + 2 : Nat) : Addr)) ∧ (∃ x y u, IsTupOf3 h (N + 4) x y u) ∧ tn1 N i h ∧ tn2 (N + 1) i h ∧ tn3 (N + 2) i h) where
  mem := List.mem_cons_self ..
  obj := fun i h st c hc => by
    obtain ⟨hz, hTI, ⟨x, y, u, hTO⟩, g1, g2, g3⟩ := st
    simp only [List.mem_cons, List.not_mem_nil, or_false] at hc
    rcases hc with q | q | q | q | q | q <;> subst q
    · exact ⟨_, hz, fun v q => nomatch q⟩
    · exact ⟨_, hTI, fun v q => nomatch q⟩
    · exact ⟨_, hTO, fun v q => nomatch q⟩
    · exact s1.obj _ _ _ g1
    · exact s2.obj _ _ _ g2
    · exact s3.obj _ _ _ g3
  keep := fun i h h' st k => by
    obtain ⟨hz, hTI, ⟨x, y, u, hTO⟩, g1, g2, g3⟩ := st
    exact ⟨k _ (by simp) _ hz, k _ (by simp) _ hTI, ⟨x, y, u, k _ (by simp) _ hTO⟩, s1.keep _ _ _ _ g1 fun o q => k N (by simp) o q, s2.keep _ _ _ _ g2 fun o q => k (N + 1) (by simp) o q, s3.keep _ _ _ _ g3 fun o q => k (N + 2) (by simp) o q⟩
  item := by
    intro X hP hw hK hc i pins s σ H E I hf st hg
    obtain ⟨hz, hTI, ⟨x0, y0, u0, hTO⟩, g1, g2, g3⟩ := st
    obtain ⟨q1, q2, q3, hi⟩ := hg
    have Z := zip_sep3 (N := N) h1 h2 h3
    have n1 : N ∉ ex1 := fun z => Nat.lt_irrefl _ (h1 _ z)
    have n2 : N + 1 ∉ ex2 := fun z => absurd (h2 _ z) (by show ¬ (N + 1 < N); omega)
    have n3 : N + 2 ∉ ex3 := fun z => absurd (h3 _ z) (by show ¬ (N + 2 < N); omega)
    obtain ⟨P1, S1, D1, a1, b1, c1⟩ := s1.step X pins σ H s N i hP hw hK hc I q1 n1 g1
    obtain ⟨P2, S2, D2, a2, b2, c2⟩ := s2.step X pins σ H s (N + 1) i hP hw hK hc I q2 n2 g2
    obtain ⟨P3, S3, D3, a3, b3, c3⟩ := s3.step X pins σ H s (N + 2) i hP hw hK hc I q3 n3 g3
    have hzl : (N + 5 : Nat) < s.heap.objs.size := Heap.lt_size hz
    refine wpAny_pyNext_zipD3_item Z D1 D2 D3 hz hTI hTO a1 a2 a3 (by omega) (by omega) (by omega) fun u1 u2 u3 h' tk p1 p2 p3 z' TO' t1 t2 t3 hT hsz hk => ?_
    obtain ⟨x, hx, rx⟩ := c1 _ _ p1
    obtain ⟨y, hy, ry⟩ := c2 _ _ p2
    obtain ⟨u, hu, ru⟩ := c3 _ _ p3
    refine ⟨_, rfl, wpAny_letOwnedTupleGo_zip (s := { s with heap := h', toks := tk }) z' fun h'' z'' sb => ?_⟩
    have hT2 : h''.get? s.heap.objs.size = some { cls := .type "tuple", data := .seq #[u1, u2, u3] } := (sb.2 _ (Nat.ne_of_gt hzl)).trans hT
    have new : ObjOk X.prog X.w (upd H s.heap.objs.size (.tup [x, y, u])) h'' s.heap.objs.size (.tup [x, y, u]) :=
      ⟨by show 3 ≤ sizeLine; decide, [u1, u2, u3], .cons rx (.cons ry (.cons ru .nil)), ⟨_, hT2, rfl, _, rfl⟩⟩
    have I1 : Inv X pins σ (upd H s.heap.objs.size (.tup [x, y, u])) { s with heap := h'', toks := tk } :=
      I.turnedNew (t' := tk) (ch := [N + 5, N + 3, N + 4, N, N + 1, N + 2]) (fun c o hb q => (sb.2 c (fun q' => hb (by simp [q']))).trans (hk c o (fun q' => hb (by simp [q'])) (fun q' => hb (by simp [q'])) (fun q' => hb (by simp [q'])) (fun q' => hb (by simp [q'])) (fun q' => hb (by simp [q'])) q)) hf (Nat.le_refl _) new
    refine ⟨.ref s.heap.objs.size, _, I1, rfl, ⟨_, x, y, u, rfl, I.hok.fresh (Nat.le_refl _), rfl, hx, hy, hu⟩, ⟨z'', ?_, ⟨u1, u2, u3, ?_⟩, ?_, ?_, ?_⟩, fun c hcm => ?_⟩
    · exact (sb.2 _ Z.TIz).trans (hk _ _ Z.TIz Z.TITO Z.TIi1 Z.TIi2 Z.TIi3 hTI)
    · exact (sb.2 _ Z.TOz).trans TO'
    · refine s1.keep _ _ _ _ (b1 _ _ t1) fun o q => (sb.2 _ ?_).trans q
      show (N : Nat) ≠ N + 5; omega
    · refine s2.keep _ _ _ _ (b2 _ _ t2) fun o q => (sb.2 _ ?_).trans q
      show (N + 1 : Nat) ≠ N + 5; omega
    · refine s3.keep _ _ _ _ (b3 _ _ t3) fun o q => (sb.2 _ ?_).trans q
      show (N + 2 : Nat) ≠ N + 5; omega
    · have hlt : c < s.heap.objs.size := by
        simp only [List.mem_cons, List.not_mem_nil, or_false] at hcm
        have : (c : Nat) ≤ N + 5 := by
          rcases hcm with q | q | q | q | q | q <;> subst q <;> (first | exact Nat.le_refl _ | exact Nat.le_add_right _ _ | (show (_ : Nat) ≤ _; omega))
        exact Nat.lt_of_le_of_lt this hzl
      rw [upd_ne (Nat.ne_of_lt hlt)]
      exact (hf c hcm).1
  done := by
    intro X hP hw hK hc i pins s σ H E I hf st hg
    obtain ⟨hz, hTI, ⟨x0, y0, u0, hTO⟩, g1, g2, g3⟩ := st
    obtain ⟨q1, q2, q3, hi⟩ := hg
    have n1 : N ∉ ex1 := fun z => Nat.lt_irrefl _ (h1 _ z)
    have n2 : N + 1 ∉ ex2 := fun z => absurd (h2 _ z) (by show ¬ (N + 1 < N); omega)
    have n3 : N + 2 ∉ ex3 := fun z => absurd (h3 _ z) (by show ¬ (N + 2 < N); omega)
    obtain ⟨P1, S1, D1, a1, b1, c1⟩ := s1.step X pins σ H s N i hP hw hK hc I q1 n1 g1
    obtain ⟨P2, S2, D2, a2, b2, c2⟩ := s2.step X pins σ H s (N + 1) i hP hw hK hc I q2 n2 g2
    obtain ⟨P3, S3, D3, a3, b3, c3⟩ := s3.step X pins σ H s (N + 2) i hP hw hK hc I q3 n3 g3
    exact wpAny_pyNext_zipD3_end (zip_sep3 (N := N) h1 h2 h3) D1 D2 D3 hz hTI hTO a1 a2 a3 (by omega) (by omega) (by omega) (by omega) fun h' tk hk => ⟨rfl, I.turnedL (t' := tk) (ch := [N + 5, N + 3, N + 4, N, N + 1, N + 2]) (fun c o hb q =>
      hk c o (fun q' => hb (by simp [q'])) (fun q' => hb (by simp [q'])) (fun q' => hb (by simp [q'])) (fun q' => hb (by simp [q'])) (fun q' => hb (by simp [q'])) q) hf⟩
  self := fun A i s Q E st h => wpAny_pyIter_zip st.1 h
end
def iZ2 (P : Program) (w : World) (K : PySem.W.Frag) (ta : TA) : TI := fun σ H R => ta σ H fun vs H1 => ∃ x y xs ys G1 G2, vs = [x, y] ∧ Beg P w K G1 x xs ∧ Beg P w K G2 y ys ∧ G1 H1 ∧ G2 H1 ∧ R (Itz2 G1 G2 xs ys) H1
def iZ3 (P : Program) (w : World) (K : PySem.W.Frag) (ta : TA) : TI := fun σ H R => ta σ H fun vs H1 => ∃ x y z xs ys zs G1 G2 G3, vs = [x, y, z] ∧ Beg P w K G1 x xs ∧ Beg P w K G2 y ys ∧ Beg P w K G3 z zs ∧ G1 H1 ∧ G2 H1 ∧ G3 H1 ∧ R (Itz3 G1 G2 G3 xs ys zs) H1
theorem pi_z2 {X : Cx} {P : Program} {w : World} {K : PySem.W.Frag} {e e2 : Expr} {ta : TA} {p pos tpos : Pos} {elts : List Expr} {kk : Nat} (hP : X.prog = P) (hw : X.w = w) (hK : X.K = K) (hg : Gl X "zip") (hm : X.mg "zip" = none) (ha : PA X [e, e2] ta)
    (hs : starEach [e, e2] X.env = (false, eval e X.env) :: starEach [e2] X.env := by rfl) (hpl : (backTo pos (starEach [e2] X.env)).any (·.1) = false := by rfl) :
    PI X (.Tuple elts kk tpos) (.Call (.Name "zip" p) [e, e2] [] pos) (iZ2 P w K ta) := by
  subst hP hw hK
  refine ⟨fun pins s σ H R I h => ?_⟩
  refine Call_ (ld_blt I hg hm PyProof.Rows.boot_zip (PyProof.Rows.callWith_type1 (thn (ha.run pos pins s σ H _ I h) fun us s1 ⟨vs, H1, I1, r1, q1⟩ => ?_) hs hpl))
  obtain ⟨x, y, xs, ys, G1, G2, ex, b1, b2, g1, g2, q⟩ := q1
  subst ex
  cases r1 with
  | cons r rr =>
    cases rr with
    | cons r' rr =>
      cases rr
      obtain ⟨o1, B1, e1, t1, c1, d1, f1, s1', z1⟩ := b1.beg X pins σ H1 s1 _ rfl rfl rfl I1 g1 r
      obtain ⟨o2, B2, e2, t2, c2, d2, f2, s2', z2⟩ := b2.beg X pins σ H1 s1 _ rfl rfl rfl I1 g2 r'
      refine zip_begins2 c1 c2 d1 d2 fun h' hz hTI hTO k1 k2 hsz hk => wpAny_pyIter_zip hz ?_
      have I2 : Inv X pins σ H1 { s1 with heap := h' } := I1.kept (t' := s1.toks) hk
      refine ⟨s1.heap.objs.size + 4, [s1.heap.objs.size + 4, s1.heap.objs.size + 2, s1.heap.objs.size + 3, s1.heap.objs.size, s1.heap.objs.size + 1], _, _, H1, rfl, I2, turn_z2 s1' s2' f1 f2, ⟨hz, hTI, ⟨_, _, hTO⟩, z1 _ _ k1, z2 _ _ k2⟩, fun c hcm => ?_, q⟩
      have hle : s1.heap.objs.size ≤ c := by
        simp only [List.mem_cons, List.not_mem_nil, or_false] at hcm
        rcases hcm with z | z | z | z | z <;> subst z <;> first | exact Nat.le_refl _ | exact Nat.le_add_right _ _
      exact I1.fpOk hle (I1.hok.fresh hle)
theorem pi_z3 {X : Cx} {P : Program} {w : World} {K : PySem.W.Frag} {e e2 e3 : Expr} {ta : TA} {p pos tpos : Pos} {elts : List Expr} {kk : Nat} (hP : X.prog = P) (hw : X.w = w) (hK : X.K = K) (hg : Gl X "zip") (hm : X.mg "zip" = none) (ha : PA X [e, e2, e3] ta)
    (hs : starEach [e, e2, e3] X.env = (false, eval e X.env) :: starEach [e2, e3] X.env := by rfl) (hpl : (backTo pos (starEach [e2, e3] X.env)).any (·.1) = false := by rfl) :
    PI X (.Tuple elts kk tpos) (.Call (.Name "zip" p) [e, e2, e3] [] pos) (iZ3 P w K ta) := by
  subst hP hw hK
  refine ⟨fun pins s σ H R I h => ?_⟩
  refine Call_ (ld_blt I hg hm PyProof.Rows.boot_zip (PyProof.Rows.callWith_type1 (thn (ha.run pos pins s σ H _ I h) fun us s1 ⟨vs, H1, I1, r1, q1⟩ => ?_) hs hpl))
  obtain ⟨x, y, z, xs, ys, zs, G1, G2, G3, ex, b1, b2, b3, g1, g2, g3, q⟩ := q1
  subst ex
  cases r1 with
  | cons r rr =>
    cases rr with
    | cons r' rr =>
      cases rr with
      | cons r'' rr =>
        cases rr
        obtain ⟨o1, B1, e1, t1, c1, d1, f1, s1', z1⟩ := b1.beg X pins σ H1 s1 _ rfl rfl rfl I1 g1 r
        obtain ⟨o2, B2, e2, t2, c2, d2, f2, s2', z2⟩ := b2.beg X pins σ H1 s1 _ rfl rfl rfl I1 g2 r'
        obtain ⟨o3, B3, e3, t3, c3, d3, f3, s3', z3⟩ := b3.beg X pins σ H1 s1 _ rfl rfl rfl I1 g3 r''
        refine zip_begins3 c1 c2 c3 d1 d2 d3 fun h' hz hTI hTO k1 k2 k3 hsz hk => wpAny_pyIter_zip hz ?_
        have I2 : Inv X pins σ H1 { s1 with heap := h' } := I1.kept (t' := s1.toks) hk
        refine ⟨s1.heap.objs.size + 5, [s1.heap.objs.size + 5, s1.heap.objs.size + 3, s1.heap.objs.size + 4, s1.heap.objs.size, s1.heap.objs.size + 1, s1.heap.objs.size + 2], _, _, H1, rfl, I2, turn_z3 s1' s2' s3' f1 f2 f3, ⟨hz, hTI, ⟨_, _, _, hTO⟩, z1 _ _ k1, z2 _ _ k2, z3 _ _ k3⟩, fun c hcm => ?_, q⟩
        have hle : s1.heap.objs.size ≤ c := by
          simp only [List.mem_cons, List.not_mem_nil, or_false] at hcm
          rcases hcm with z | z | z | z | z | z <;> subst z <;> first | exact Nat.le_refl _ | exact Nat.le_add_right _ _
        exact I1.fpOk hle (I1.hok.fresh hle)
end Rf
/-! Cal6: zips, instances, the box, nested data, texts. -/
namespace Rf
open PySem PySem.Spec L2

section
variable {X : Cx} {T : Tx} {a b c e o tg : Expr} {es : List Expr} {ta tb te to : TE} {t : TA} {p pos p2 apos cpos pos' : Pos} {x : Str}
theorem piZ2 {tpos : Pos} {elts : List Expr} {kk : Nat} (hA : At X T) (hg : Gl X "zip") (hm : T.mg "zip" = none) (ha : PA X [a, b] t)
    (hs : starEach [a, b] X.env = (false, eval a X.env) :: starEach [b] X.env := by rfl) (hpl : (backTo pos (starEach [b] X.env)).any (·.1) = false := by rfl) :
    PI X (.Tuple elts kk tpos) (.Call (.Name "zip" p) [a, b] [] pos) (iZ2 T.P T.w T.K t) := pi_z2 hA.p hA.w hA.k hg (by rw [hA.m]; exact hm) ha hs hpl
theorem piZ3 {tpos : Pos} {elts : List Expr} {kk : Nat} (hA : At X T) (hg : Gl X "zip") (hm : T.mg "zip" = none) (ha : PA X [a, b, c] t)
    (hs : starEach [a, b, c] X.env = (false, eval a X.env) :: starEach [b, c] X.env := by rfl) (hpl : (backTo pos (starEach [b, c] X.env)).any (·.1) = false := by rfl) :
    PI X (.Tuple elts kk tpos) (.Call (.Name "zip" p) [a, b, c] [] pos) (iZ3 T.P T.w T.K t) := pi_z3 hA.p hA.w hA.k hg (by rw [hA.m]; exact hm) ha hs hpl
theorem psfld {f : Str} {tv : TE} {value : Expr} (hA : At X T) (ha : PE X o ta) (hv : PE X value tv) (hs : swapsWith value (some (.Attribute o f pos')) pos.line X.env = pure false) : PS X (.Assign [.Attribute o f pos'] value pos) (sFld T.K ta tv f) := by rw [← hA.k]; exact ps_fld ha hv hs
theorem pty {n : String} (hA : At X T) (hg : Gl X x) (hm : T.mg x = none) (hv : bootBuiltins x = some (.type n)) (hn : x ≠ "__name__" := by decide) (hd : (x == ("__debug__" : Str)) = false := by decide) : PE X (.Name x pos) (tC (.ty n)) :=
  ⟨fun pins s σ H Q I h => ld_blt I hg (by rw [hA.m]; exact hm) hv ⟨.ty n, H, I, rfl, h⟩ hn hd⟩
def rCount : V → List V → Hp → VK → Prop := fun x xs H Q => ∃ a b, x = .str a ∧ xs = [.str b] ∧ Q (.int (Txt.count a b)) H
theorem pmCount (hA : At X T) (ho : PE X o to) (ha : PA X [e] t) (hbase : attributeBase o "count" X.env (eval o X.env) = eval o X.env := by rfl)
    (hfew : ((backTo cpos (starEach [e] X.env)).all (fun x => !x.1) && (backToKw cpos (keywordEach [] X.env)).all (fun x => x.1.isSome) && decide (([e] : List Expr).length + ([] : List Keyword).length + (if ([] : List Keyword).isEmpty then 0 else 1) < 30)) = true := by rfl)
    (hline : (apos.endLine == cpos.line) = true := by rfl) (hs : starEach [e] X.env = (false, eval e X.env) :: starEach [] X.env := by rfl) (hplain : (backTo cpos (starEach [] X.env)).any (·.1) = false := by rfl) :
    PE X (.Call (.Attribute o "count" apos) [e] [] cpos) (tBM T.K "str" rCount to t) := by rw [← hA.k]; exact pe_bm PySem.F.plainAttrs_str PySem.F.slot_str_count PySem.F.type_str_count mt_count ho ha hbase hfew hline hs hplain
/-- a class that may be made by its name -/
structure Mc (T : Tx) (k : Nat) (x : Str) (C : Addr) (sp : Sp) : Prop where
  ex : ∃ (f : Addr) (fd : FuncData) (ps : List Str), Mk T.K C f ∧ FnOk T.P T.w T.K T.mg T.base CX0 k f fd ps sp ∧ T.mg x = some (.ref C) ∧ Binds T.K fd ps []
theorem pmk {k j : Nat} {C : Addr} {sp : Sp} (c : Mc T k x C sp) (hA : At X T) (hr : Room j X.A) (hk : k + 1 ≤ j) (hg : Gl X x) (ha : PA X (e :: es) t)
    (hdb : (x == ("__debug__" : Str)) = false := by decide) (he : starEach (e :: es) X.env = (false, eval e X.env) :: starEach es X.env := by rfl) (hpl : (backTo pos (starEach es X.env)).any (·.1) = false := by rfl) :
    PE X (.Call (.Name x p) (e :: es) [] pos) (tMake C sp [] E0 t) := by
  obtain ⟨f, fd, ps, M, F, hm, bd⟩ := c.ex
  obtain ⟨h1, h2, h3, h4, h5⟩ := hA
  rw [← h1, ← h2, ← h3, ← h4, ← h5] at F
  rw [← h3] at M bd
  rw [← h4] at hm
  exact pe_make M F (hr.mono hk) hg hm bd .nil pass0 ha hdb he hpl
end

section
variable {K : PySem.W.Frag} {P : Program} {w : World} {β : Option Addr} {Γ : EnvA} {α γ δ κ ε : Type} {r : RP α} {r1 : RP γ} {r2 : RP δ} {te ta tb tc : TE} {t u : TT} {pi pj pk : Int → Prop} {pb pb2 pb3 : Bool → Prop} {ps ps2 : Str → Prop}

/-! ### zips -/
def SrcR (P : Program) (w : World) (K : PySem.W.Frag) (r : RP α) (r' : RP γ) (f : α → List γ) : Prop := ∀ (A : Hp) (v : V) (x : α), r A v x → ∃ (xs : List V) (G : Hp → Prop), Beg P w K G v xs ∧ (∀ C H, Le A C → Sub C H → G H) ∧ Paired (r' A) xs (f x)
theorem src_list : SrcR P w K (rL r) r id := fun A v x ⟨a, vs, e, h1, h2⟩ => by
  subst e
  exact ⟨vs, _, beg_list (a := a), fun C H l s => SqL.of (s _ _ (l.lst h1)), h2⟩
theorem src_tup : SrcR P w K (qTI K) qI id := fun A v x ⟨a, e, h1⟩ => by
  subst e
  exact ⟨_, _, beg_tup (a := a), fun C H l s => sqt_up s (l.sqt h1), ints_paired⟩
def chs (z : Str) : List Str := z.cps.toList.map fun c => ⟨#[c]⟩
theorem chs_paired {A : Hp} : ∀ l : List Nat, Paired (qS A) (l.map fun c => V.str ⟨#[c]⟩) (l.map fun c => (⟨#[c]⟩ : Str))
  | [] => .nil
  | c :: l => .cons rfl (chs_paired l)
theorem src_text : SrcR P w K qS qS chs := fun A v x e => by
  cases (show v = _ from e)
  exact ⟨_, _, beg_text, fun _ _ _ _ => trivial, chs_paired _⟩
theorem ei_z2 {γ' δ' : Type} {r1' : RP γ'} {r2' : RP δ'} {f1 : γ → List γ'} {f2 : δ → List δ'} [m1 : Mono r1] [m2 : Mono r2] [n1 : Mono r1'] [n2 : Mono r2'] {p1 : γ → Prop} {p2 : δ → Prop} {g : TG} {js : List Nat} {e : γ' × δ' → List Ent}
    (S1 : SrcR P w K r1 r1' f1) (S2 : SrcR P w K r2 r2' f2) (h1 : Ev β ta Γ r1 p1) (h2 : Ev β tb Γ r2 p2) (tg : Tg g js (qP r1' r2') e) :
    EvI β (iZ2 P w K (tCons ta (tCons tb tNil))) g Γ js e fun l => ∃ x y, p1 x ∧ p2 y ∧ l = (f1 x).zip (f2 y) := fun H0 σ A H R W k =>
  h1 H0 σ A H R _ fun v x B H1 gr px rx => h2 H0 σ B H1 (R.grow gr) _ fun u y B2 H2 gr2 py ry => by
    obtain ⟨xs, G1, b1, s1, q1⟩ := S1 B2 v x (m1.le gr2.le rx)
    obtain ⟨ys, G2, b2, s2, q2⟩ := S2 B2 u y ry
    have l1 : xs.length = (f1 x).length := Paired.length q1
    have l2 : ys.length = (f2 y).length := Paired.length q2
    have len0 : ((f1 x).zip (f2 y)).length = (xs.zip ys).length := by rw [List.length_zip, List.length_zip, l1, l2]
    have len : (((f1 x).zip (f2 y)).map e).length = (xs.zip ys).length := by rw [List.length_map, len0]
    refine ⟨v, u, xs, ys, G1, G2, rfl, b1, b2, s1 _ _ Le.refl gr2.sub, s2 _ _ Le.refl gr2.sub, k _ _ B2 H2 (gr.trans gr2) ⟨x, y, px, py, rfl⟩ ⟨fun i C H' hi lc sc => ⟨s1 _ _ lc sc, s2 _ _ lc sc, by rw [← len]; exact hi⟩,
      fun C H' lc sc => ⟨s1 _ _ lc sc, s2 _ _ lc sc, len⟩, fun i es C H' z H'' hi lc sc yd => ?_⟩⟩
    obtain ⟨N, x1, x2, rfl, hT, rfl, g1, g2⟩ := yd
    have hi' : i < ((f1 x).zip (f2 y)).length := by
      have := (List.getElem?_eq_some_iff.mp hi).1
      rwa [List.length_map] at this
    rw [List.getElem?_map, List.getElem?_eq_getElem hi'] at hi
    cases (Option.some.inj hi)
    have hi1 : i < (f1 x).length := by rw [List.length_zip] at hi'; omega
    have hi2 : i < (f2 y).length := by rw [List.length_zip] at hi'; omega
    obtain ⟨u1, q3, q4⟩ := paired_at q1 (List.getElem?_eq_getElem hi1)
    obtain ⟨u2, q5, q6⟩ := paired_at q2 (List.getElem?_eq_getElem hi2)
    rw [g1] at q3; cases q3
    rw [g2] at q5; cases q5
    have lT : Le C (upd C N (.tup [x1, x2])) := le_new (sc.no hT)
    refine ⟨upd C N (.tup [x1, x2]), Grow.new sc hT, fun σ Q q => tg _ _ sc.both _ _ ⟨N, x1, x2, rfl, upd_same, ?_, ?_⟩ σ Q q⟩
    · rw [List.getElem_zip]
      exact n1.le (lc.trans lT) q4
    · rw [List.getElem_zip]
      exact n2.le (lc.trans lT) q6
theorem ei_z3 {γ' δ' κ' : Type} {r3 : RP κ} {r1' : RP γ'} {r2' : RP δ'} {r3' : RP κ'} {f1 : γ → List γ'} {f2 : δ → List δ'} {f3 : κ → List κ'} [m1 : Mono r1] [m2 : Mono r2] [m3 : Mono r3] [n1 : Mono r1'] [n2 : Mono r2'] [n3 : Mono r3'] {p1 : γ → Prop} {p2 : δ → Prop} {p3 : κ → Prop} {g : TG} {js : List Nat} {e : γ' × δ' × κ' → List Ent}
    (S1 : SrcR P w K r1 r1' f1) (S2 : SrcR P w K r2 r2' f2) (S3 : SrcR P w K r3 r3' f3) (h1 : Ev β ta Γ r1 p1) (h2 : Ev β tb Γ r2 p2) (h3 : Ev β tc Γ r3 p3) (tg : Tg g js (qT3 r1' r2' r3') e) :
    EvI β (iZ3 P w K (tCons ta (tCons tb (tCons tc tNil)))) g Γ js e fun l => ∃ x y z, p1 x ∧ p2 y ∧ p3 z ∧ l = (f1 x).zip ((f2 y).zip (f3 z)) := fun H0 σ A H R W k =>
  h1 H0 σ A H R _ fun v x B H1 gr px rx => h2 H0 σ B H1 (R.grow gr) _ fun u y B2 H2 gr2 py ry => h3 H0 σ B2 H2 ((R.grow gr).grow gr2) _ fun o z B3 H3 gr3 pz rz => by
    obtain ⟨xs, G1, b1, s1, q1⟩ := S1 B3 v x (m1.le (gr2.le.trans gr3.le) rx)
    obtain ⟨ys, G2, b2, s2, q2⟩ := S2 B3 u y (m2.le gr3.le ry)
    obtain ⟨zs, G3, b3, s3, q3⟩ := S3 B3 o z rz
    have l1 : xs.length = (f1 x).length := Paired.length q1
    have l2 : ys.length = (f2 y).length := Paired.length q2
    have l3 : zs.length = (f3 z).length := Paired.length q3
    have len0 : ((f1 x).zip ((f2 y).zip (f3 z))).length = min (min xs.length ys.length) zs.length := by rw [List.length_zip, List.length_zip, l1, l2, l3, Nat.min_assoc]
    have len : (((f1 x).zip ((f2 y).zip (f3 z))).map e).length = min (min xs.length ys.length) zs.length := by rw [List.length_map, len0]
    have gg := (gr.trans gr2).trans gr3
    refine ⟨v, u, o, xs, ys, zs, G1, G2, G3, rfl, b1, b2, b3, s1 _ _ Le.refl gr3.sub, s2 _ _ Le.refl gr3.sub, s3 _ _ Le.refl gr3.sub, k _ _ B3 H3 gg ⟨x, y, z, px, py, pz, rfl⟩ ⟨fun i C H' hi lc sc => ⟨s1 _ _ lc sc, s2 _ _ lc sc, s3 _ _ lc sc, by rw [← len]; exact hi⟩,
      fun C H' lc sc => ⟨s1 _ _ lc sc, s2 _ _ lc sc, s3 _ _ lc sc, len⟩, fun i es C H' zz H'' hi lc sc yd => ?_⟩⟩
    obtain ⟨N, x1, x2, x3, rfl, hT, rfl, g1, g2, g3⟩ := yd
    have hi' : i < ((f1 x).zip ((f2 y).zip (f3 z))).length := by
      have := (List.getElem?_eq_some_iff.mp hi).1
      rwa [List.length_map] at this
    rw [List.getElem?_map, List.getElem?_eq_getElem hi'] at hi
    cases (Option.some.inj hi)
    have hi1 : i < (f1 x).length := by rw [List.length_zip] at hi'; omega
    have hi0 : i < ((f2 y).zip (f3 z)).length := by rw [List.length_zip] at hi'; omega
    have hi2 : i < (f2 y).length := by rw [List.length_zip] at hi0; omega
    have hi3 : i < (f3 z).length := by rw [List.length_zip] at hi0; omega
    obtain ⟨u1, q4, q5⟩ := paired_at q1 (List.getElem?_eq_getElem hi1)
    obtain ⟨u2, q6, q7⟩ := paired_at q2 (List.getElem?_eq_getElem hi2)
    obtain ⟨u3, q8, q9⟩ := paired_at q3 (List.getElem?_eq_getElem hi3)
    rw [g1] at q4; cases q4
    rw [g2] at q6; cases q6
    rw [g3] at q8; cases q8
    have lT : Le C (upd C N (.tup [x1, x2, x3])) := le_new (sc.no hT)
    refine ⟨upd C N (.tup [x1, x2, x3]), Grow.new sc hT, fun σ Q q => tg _ _ sc.both _ _ ⟨N, x1, x2, x3, rfl, upd_same, ?_, ?_, ?_⟩ σ Q q⟩
    · rw [List.getElem_zip]
      exact n1.le (lc.trans lT) q5
    · rw [List.getElem_zip, List.getElem_zip]
      exact n2.le (lc.trans lT) q7
    · rw [List.getElem_zip, List.getElem_zip]
      exact n3.le (lc.trans lT) q9

/-! ### texts -/
theorem ev_join {p : List Str → Prop} {sep : Str} {ps3 : Str → Prop} (ha : Ev β ta Γ qS (· = sep)) (hb : Ev β tb Γ (rL qS) p) (k : ∀ xs, p xs → (xs.map (·.length)).sum + xs.length * sep.length ≤ 16777216 ∧ ps3 (Txt.join sep xs)) :
    Ev β (tBM K "str" (rJoin K) ta (tCons tb tNil)) Γ qS ps3 := fun H0 σ A H R Q q =>
  ha H0 σ A H R _ fun v x B H1 g px ev => by
    cases ev; cases px
    refine ⟨rfl, hb H0 σ B H1 (R.grow g) _ fun u xs C H2 g2 pu ⟨l, vs, e, h1, h2⟩ => ?_⟩
    subst e
    obtain ⟨k1, k2⟩ := k xs pu
    refine ⟨_, l, xs, rfl, rfl, .inl ?_, k1, q _ _ C H2 (g.trans g2) k2 rfl⟩
    rw [paired_strs h2] at h1
    exact SqL.of (g2.sub _ _ h1)
theorem ev_count (ha : Ev β ta Γ qS ps) (hb : Ev β tb Γ qS ps2) (k : ∀ x y, ps x → ps2 y → pi (Txt.count x y)) : Ev β (tBM K "str" rCount ta (tCons tb tNil)) Γ qI pi := fun H0 σ A H R Q q =>
  ha H0 σ A H R _ fun v x B H1 g px ev => by
    cases ev
    refine ⟨rfl, hb H0 σ B H1 (R.grow g) _ fun u y C H2 g2 py eu => ?_⟩
    cases eu
    exact ⟨_, _, rfl, rfl, q _ _ C H2 (g.trans g2) (k _ _ px py) rfl⟩

/-! ### instances -/
theorem ev_fld {f : Str} {C : Addr} {p : α → Prop} {p3 : γ → Prop} (cl : Cls K C) (na : NoAttr K C f) (g : α → γ) (hf : ∀ A v x, r A v x → ∃ a dx fs u, v = .ref a ∧ A a = some (.ins C dx fs) ∧ fs.lookup f = some u ∧ r1 A u (g x)) (ha : Ev β ta Γ r p) (k : ∀ x, p x → p3 (g x)) : Ev β (tFld K ta f) Γ r1 p3 := fun H0 σ A H R Q q =>
  ha H0 σ A H R _ fun v x B H1 gr px rx => by
    obtain ⟨a, dx, fs, u, ev, h1, h2, h3⟩ := hf B v x rx
    exact ⟨a, C, dx, fs, u, ev, gr.sub _ _ h1, cl, na, h2, q u _ B H1 gr (k x px) h3⟩
/-- an instance of one's own, its fields as φ says -/
def ownI (C x : Addr) (φ : Hp → List (Str × V) → Prop) (m : ∀ A B fs, Le A B → φ A fs → φ B fs) : Ent where
  p := fun A H v => ∃ (dx : Addr) (fs : List (Str × V)), v = .ref x ∧ A x = none ∧ H x = some (.ins C dx fs) ∧ φ A fs
  fp := fun _ v a => v = .ref a
  ow := fun h e => by
    obtain ⟨dx, fs, rfl, h1, h2, _⟩ := h
    cases e
    exact ⟨h1, _, h2⟩
  st := fun h l k => by
    obtain ⟨dx, fs, rfl, h1, h2, h3⟩ := h
    obtain ⟨q1, q2⟩ := k x _ rfl h2
    exact ⟨⟨dx, fs, rfl, q1, q2, m _ _ _ l h3⟩, fun _ z => z⟩
/-- self.f = e -/
theorem tr_setF {F : Fr} {D : Ends} {i : Nat} {u : TS} {f : Str} {C a : Addr} {φ φ' : Hp → List (Str × V) → Prop} {m m'} [Mono r] {p : α → Prop} (cl : Cls K C) (na : NoAttr K C f) (hΓ : Γ[i]? = some (some (ownI C a φ m))) (h : Ev F.bx te Γ r p) (hl : ∀ A fs, φ A fs → fs.length < 1000)
    (hφ : ∀ x, p x → ∀ A fs v, φ A fs → r A v x → φ' A (putF f v fs)) (k : ∀ x, p x → Tr F (Γ.set i (some (ownI C a φ' m'))) u D) : Tr F Γ (tSeq (sFld K (tVar i) te f) u) D := fun σ H ⟨A, le, g, R⟩ => by
  refine h F.H0 σ A H R _ fun y x B H' g2 px rx => ?_
  have R2 := R.grow g2
  obtain ⟨v, hv, ⟨dx, fs, rfl, h1, h2, h3⟩, _⟩ := R2.ent i _ hΓ
  refine ⟨_, hv, a, C, dx, fs, rfl, h2, cl, na, hl _ _ h3, k x px _ _ ?_⟩
  exact S.chg (e := ownI C a φ m) (v := .ref a) (le.trans g2.le) (g.trans g2) R2 hΓ hv rfl ⟨dx, _, rfl, h1, upd_same, hφ x px _ _ _ h3 rx⟩ fun _ z => z
/-- an __init__'s promise: the new instance, its other arguments; then the fields as φ says -/
def spIn {ι : Type} (C : Addr) (args : ι → List Ent) (pre : ι → Prop) (φ : ι → Hp → List (Str × V) → Prop) : Sp := fun vs H Q _ =>
  ∃ (g : ι) (A : Hp) (x dx : Addr) (us : List V), vs = .ref x :: us ∧ H x = some (.ins C dx []) ∧ Sub A (fun a => if a = x then none else H a) ∧ Ents (args g) us A (fun a => if a = x then none else H a) ∧ pre g ∧
    ∀ (B H' : Hp) (dx' : Addr) (fs : List (Str × V)), Grow none A (fun a => if a = x then none else H a) B (fun a => if a = x then none else H' a) → B x = none → H' x = some (.ins C dx' fs) → φ g B fs → Q .non H'
theorem ev_make {ι : Type} {C : Addr} {args : ι → List Ent} {pre : ι → Prop} {φ : ι → Hp → List (Str × V) → Prop} {E : XK} {t : TA} {p : δ → Prop}
    (h : EvA β t Γ fun es => ∃ g, es = args g ∧ pre g ∧ ∀ A x dx fs, A x = none → φ g A fs → ∃ y, p y ∧ r2 (upd A x (.ins C dx fs)) (.ref x) y) : Ev β (tMake C (spIn C args pre φ) [] E t) Γ r2 p := fun H0 σ A H R Q k =>
  h H0 σ A H R _ fun vs es B H1 g ⟨gi, e1, pg, kp⟩ ee => fun x dx hx hdx hne => by
    subst e1
    rw [List.append_nil]
    have e0 : (fun a => if a = x then none else (upd (upd H1 dx (.own x)) x (.ins C dx [])) a) = upd H1 dx (.own x) := by
      funext a
      by_cases q : a = x
      · subst q
        rw [if_pos rfl, upd_ne (fun z => hne z.symm), hx]
      · rw [if_neg q, upd_ne q]
    have g0 : Grow β B H1 B (upd H1 dx (.own x)) := Grow.newOwn g.sub hdx
    refine ⟨gi, B, x, dx, vs, rfl, upd_same, by rw [e0]; exact g0.sub, by rw [e0]; exact ee.grow g0, pg, fun C' H' dx' fs g2 hC h2 hφ => ⟨rfl, ?_⟩⟩
    obtain ⟨y, py, ry⟩ := kp C' x dx' fs hC hφ
    rw [e0] at g2
    have gN : Grow none C' (fun a => if a = x then none else H' a) (upd C' x (.ins C dx' fs)) H' := by
      have q := Grow.new (β := none) (o := HO.ins C dx' fs) g2.sub (p := x) (by show (if x = x then none else H' x) = none; rw [if_pos rfl])
      have e : upd (fun a => if a = x then none else H' a) x (HO.ins C dx' fs) = H' := by
        funext a
        by_cases z : a = x
        · subst z; rw [upd_same]; exact h2.symm
        · rw [upd_ne z]; show (if a = x then none else H' a) = H' a; rw [if_neg z]
      rwa [e] at q
    exact k (.ref x) y _ H' ((g.trans g0).trans (g2.trans gN).free) py ry
/-- THE RULE for an __init__ -/
theorem mc_def {T : Tx} {x qual : Str} {st : Stmt} {C f : Addr} {fd : FuncData} {N ps : List Str} {k : Nat} {ι : Type} {args : ι → List Ent} {pre : ι → Prop} {φ : ι → Hp → List (Str × V) → Prop} {m : ∀ g A B fs, Le A B → φ g A fs → φ g B fs}
    (G : FunD T.K "__init__" qual (defArgs st) (defBody st) (defScope st) [] [] f fd) (M : Mk T.K C f) (hm : T.mg x = some (.ref C)) (Sc : FnScope N ps (defScope st))
    (hb : ∀ (kV doc pm : Value) (an : Option Addr) (cdv ct : Value) (us : List Value), us.length = ps.length → bindArgs (PySem.W.fnOf "__init__" qual (defArgs st) (defBody st) (defScope st) .none kV doc pm an cdv ct) ⟨us, []⟩ = pure (ps.zip us))
    (len : ∀ g, (args g).length + 1 = ps.length) (m0 : ∀ A B fs, Le A B → fs = [] → fs = [])
    (body : ∀ (f : Addr) (cdv : Value) (A : Around) (outer : List Env) (s : Shared) (H : Hp) (E : XK), Room k (A.deeper (PyProof.Rows.envOfC qual (defScope st) s.heap.objs.size f cdv)) →
      ∃ t, PSs (cxOf CX0 T.P T.w T.K T.mg T.base N qual (defScope st) f cdv A outer s H E).nox (defBody st) t ∧
        ∀ (g : ι) (x : Addr) (Fm : Fr) (D : Ends), Fm.bx = none → pre g → (∀ Γ', Γ'[0]? = some (some (ownI C x (φ g) (m g))) → ∀ σ H', S Fm Γ' σ H' → D.nx σ H') → Tr Fm (startE N (ownI C x (fun _ fs => fs = []) m0 :: args g)) t D) :
    Mc T (k + 1) x C (spIn C args pre φ) := by
  refine ⟨f, fd, ps, M, G.ok Sc (fun vs H Q E h => ?_) (fun cdv A outer s H vs Q E hr h => ?_), hm, G.bindsN hb⟩
  · obtain ⟨g, A, x, dx, us, e, _, _, he, _⟩ := h
    have q : us.length = (args g).length := Paired.length he
    rw [e, ← len g, List.length_cons, q]
  · obtain ⟨t, ht, q⟩ := body f cdv A outer s H E hr
    refine ⟨t, ht.nox, ?_⟩
    obtain ⟨g, A1, x, dx, us, e, h1, h2, h3, h4, h5⟩ := h
    subst e
    have hAx : A1 x = none := by
      cases z : A1 x with
      | none => rfl
      | some o =>
        have : (if x = x then none else H x) = some o := h2 _ _ z
        rw [if_pos rfl] at this; cases this
    have sb : Sub A1 H := fun a o z => by
      have : (if a = x then none else H a) = some o := h2 _ _ z
      by_cases q : a = x
      · rw [if_pos q] at this; cases this
      · rw [if_neg q] at this; exact this
    have hl : us.length = (args g).length := Paired.length h3
    have G2 : ∀ {i : Nat} {v : V}, (V.ref x :: us)[i]? = some v → (L2.start N (.ref x :: us))[i]? = some (some v) := by
      intro i v h
      unfold L2.start
      have q : i < (V.ref x :: us).length := (List.getElem?_eq_some_iff.mp h).1
      rw [List.getElem?_append_left (by simpa using q), List.getElem?_map, h]; rfl
    have G1 : ∀ {i : Nat} {e : Ent}, (startE N (ownI C x (fun _ fs => fs = []) m0 :: args g))[i]? = some (some e) → (ownI C x (fun _ fs => fs = []) m0 :: args g)[i]? = some e := by
      intro i e h
      unfold startE at h
      by_cases q : i < (ownI C x (fun _ fs => fs = []) m0 :: args g).length
      · rw [List.getElem?_append_left (by simpa using q), List.getElem?_map] at h
        cases z : (ownI C x (fun _ fs => fs = []) m0 :: args g)[i]? with
        | none => rw [z] at h; cases h
        | some u => rw [z] at h; simpa using h
      · rw [List.getElem?_append_right (by simpa using q), List.getElem?_replicate] at h
        split at h <;> cases h
    have up : ∀ {e : Ent} {v : V}, e.p A1 (fun a => if a = x then none else H a) v → (∀ a, ¬ e.fp (fun a => if a = x then none else H a) v a) → e.p A1 H v ∧ ∀ a, ¬ e.fp H v a := fun {e v} hp hf =>
      let ⟨q1, q2⟩ := e.st (H' := H) hp Le.refl fun a o fa => (hf a fa).elim
      ⟨q1, fun a z => hf a (q2 a z)⟩
    refine q g x ⟨none, A1, fun a => if a = x then none else H a, A1⟩ _ rfl h4 (fun Γ' hΓ σ H' s' => ?_) _ _ ⟨A1, Le.refl, ⟨Le.refl, sb, fun a o _ z1 z2 => ⟨z1, by
      have z2 : (if a = x then none else H a) = some o := z2
      split at z2
      · cases z2
      · exact z2⟩, fun _ z => nomatch z⟩, ⟨sb, ?_, fun a z => by show (if a = x then none else H a) = none; rw [z]; simp, (fun _ z => nomatch z), fun i e he => ?_, fun i j e e' v v' a n z1 z2 z3 z4 z5 => ?_⟩⟩
    · obtain ⟨B, l, g1, R⟩ := s'
      obtain ⟨v, hv, ⟨dx', fs, rfl, k1, k2, k3⟩, _⟩ := R.ent 0 _ hΓ
      have e0 : Sub B H' := g1.sub
      show Q .non H'
      refine h5 B H' dx' fs ⟨g1.le, fun b o z => ?_, fun b o n z1 z2 => ?_, fun _ z => nomatch z⟩ k1 k2 k3
      · show (if b = x then none else H' b) = some o
        rw [if_neg (fun q => by rw [q, k1] at z; cases z)]; exact e0 _ _ z
      · obtain ⟨y1, y2⟩ := g1.own b o n z1 z2
        have z2 : (if b = x then none else H b) = some o := z2
        refine ⟨y1, ?_⟩
        show (if b = x then none else H' b) = some o
        rw [if_neg (fun q => by rw [if_pos q] at z2; cases z2)]; exact y2
    · unfold L2.start startE; simp [hl]
    · cases i with
      | zero =>
        have := G1 he
        cases (Option.some.inj this)
        exact ⟨.ref x, G2 rfl, ⟨dx, [], rfl, hAx, h1, rfl⟩, fun a z => by cases z; show (if x = x then none else H x) = none; rw [if_pos rfl]⟩
      | succ i =>
        have := G1 he
        obtain ⟨v, y1, y2, y3⟩ := ents_get h3 i e (by simpa using this)
        obtain ⟨y4, y5⟩ := up y2 y3
        exact ⟨v, G2 (by simpa using y1), y4, fun a z => (y5 a z).elim⟩
    · cases j with
      | zero =>
        cases i with
        | zero => exact (n rfl).elim
        | succ i =>
          have := G1 z1
          obtain ⟨u, y1, y2, y3⟩ := ents_get h3 i e (by simpa using this)
          rw [G2 (i := i + 1) (by simpa using y1)] at z3; cases z3
          exact ((up y2 y3).2 a z5).elim
      | succ j =>
        have := G1 z2
        obtain ⟨u, y1, y2, y3⟩ := ents_get h3 j e' (by simpa using this)
        rw [G2 (i := j + 1) (by simpa using y1)] at z4; cases z4
        exact (up y2 y3).2 a
end
end Rf
/-! Cal7: the box, nested data, more values. -/
namespace Rf
open PySem PySem.Spec L2

section
variable {K : PySem.W.Frag} {β : Option Addr} {Γ : EnvA} {α γ δ κ : Type} {r : RP α} {r1 : RP γ} {r2 : RP δ} {te ta tb tc : TE} {t u : TT} {pi pj pk : Int → Prop} {pb pb2 pb3 : Bool → Prop} {ps ps2 : Str → Prop}

/-! ### values -/
theorem ev_orV (h : Ev β ta Γ qB pb) (h1 : pb true → pb3 true) (h2 : pb false → Ev β tb Γ qB pb3) : Ev β (tOrV ta tb) Γ qB pb3 := fun H0 σ A H R Q q => h H0 σ A H R _ fun v b B H' g px rx => ⟨b, rx, by
  cases b with
  | false => exact h2 px H0 σ B H' (R.grow g) Q fun v c C H2 g2 pc rc => q v c C H2 (g.trans g2) pc rc
  | true => exact q _ true B H' g (h1 px) rfl⟩
theorem ev_orVD {a b : Bool} (h : Ev β ta Γ qB (· = a)) (h2 : a = false → Ev β tb Γ qB (· = b)) : Ev β (tOrV ta tb) Γ qB (· = (a || b)) :=
  ev_orV h (fun e => by rw [← e]; rfl) fun e => (h2 e.symm).imp fun x ex => by rw [← e, ex]; rfl
theorem ev_notV (h : Ev β ta Γ qB pb) (k : ∀ b, pb b → pb3 (!b)) : Ev β (tNotV ta) Γ qB pb3 := fun H0 σ A H R Q q => h H0 σ A H R _ fun v b B H' g px rx => ⟨b, rx, q _ (!b) B H' g (k b px) rfl⟩
/-- the rest of a text from a place on -/
theorem ev_from1 {ps3 : Str → Prop} (ha : Ev β ta Γ qS ps) (hz : ∀ z, ps z → z.length ≤ 16777216) (k : ∀ z, ps z → ps3 (cutS z (some 1) none)) : Ev β (tSl rSlS ta (tPart (tC (.int 1))) tNoPart) Γ qS ps3 := fun H0 σ A H R Q q =>
  ha H0 σ A H R _ fun v z B H1 g px ev => by
    cases ev
    exact ⟨1, rfl, z, rfl, by rw [PySem.sizeLine_eq]; exact hz z px, q _ _ B H1 g (k z px) rfl⟩
/-- one of the texts that are written out, '..'[i] -/
theorem tg_ti2 {i j : Nat} : Tg (gTup K 2 (gCons (gName i) (gCons (gName j) gNil))) [i, j] (fun A v (x : Int × Int) => qTI K A v [x.1, x.2]) fun x => [sh qI x.1, sh qI x.2] := fun A H s v x hv σ Q q => by
  obtain ⟨a, rfl, h1⟩ := hv
  exact ⟨a, _, rfl, sqt_up s h1, rfl, _, _, rfl, _, _, rfl, rfl, q [_, _] A H (Grow.refl s) (.cons ⟨rfl, fun _ z => z⟩ (.cons ⟨rfl, fun _ z => z⟩ .nil))⟩
def qTI2 (K : PySem.W.Frag) : RP (Int × Int) := fun A v x => qTI K A v [x.1, x.2]
instance : Mono (qTI2 K) := ⟨fun {_ _ v x} l h => Mono.le (r := qTI K) (x := [x.1, x.2]) l h⟩
theorem qTI_ne {A : Hp} {v : V} {x : List Int} (h : qTI K A v x) : v ≠ .non := by
  obtain ⟨a, rfl, _⟩ := h
  intro z; cases z
theorem qI_ne {A : Hp} {v : V} {x : Int} (h : qI A v x) : v ≠ .non := by
  cases (show v = _ from h)
  intro z; cases z
theorem rL_ne {A : Hp} {v : V} {x : List α} (h : rL r A v x) : v ≠ .non := by
  obtain ⟨a, vs, rfl, _⟩ := h
  intro z; cases z
theorem qP_ne {A : Hp} {v : V} {x : γ × δ} (h : qP r1 r2 A v x) : v ≠ .non := by
  obtain ⟨a, _, _, rfl, _⟩ := h
  intro z; cases z
/-- None or something -/
theorem ev_some {p : α → Prop} (ne : ∀ {A v x}, r A v x → v ≠ .non) (h : Ev β ta Γ r p) : Ev β ta Γ (qO r) fun z => ∃ x, p x ∧ z = some x := fun H0 σ A H R Q q => h H0 σ A H R _ fun v x B H1 g px rx => q v (some x) B H1 g ⟨x, px, rfl⟩ ⟨ne rx, rx⟩
theorem ev_none : Ev β (tC .non) Γ (qO r) (· = none) := ev_c fun _ => rfl
/-- what is not None -/
theorem ev_the {p : Option α → Prop} {p3 : α → Prop} (h : Ev β ta Γ (qO r) p) (k : ∀ x, p x → ∃ y, x = some y ∧ p3 y) : Ev β ta Γ r p3 := h.as fun x px => by
  obtain ⟨y, e, py⟩ := k x px
  subst e
  exact ⟨y, py, fun _ _ z => z.2⟩
/-- a list of things of two kinds -/
def qU (r1 : RP γ) (r2 : RP δ) : RP (γ ⊕ δ) := fun A v x => match x with
  | .inl y => r1 A v y
  | .inr y => r2 A v y
instance [m1 : Mono r1] [m2 : Mono r2] : Mono (qU r1 r2) := ⟨fun {A B v x} l h => by
  cases x with
  | inl y => exact m1.le l h
  | inr y => exact m2.le l h⟩
theorem ev_inl {p : γ → Prop} (h : Ev β ta Γ r1 p) : Ev β ta Γ (qU r1 r2) fun z => ∃ x, p x ∧ z = .inl x := h.as fun x px => ⟨.inl x, ⟨x, px, rfl⟩, fun _ _ z => z⟩
theorem ev_inr {p : δ → Prop} (h : Ev β ta Γ r2 p) : Ev β ta Γ (qU r1 r2) fun z => ∃ x, p x ∧ z = .inr x := h.as fun x px => ⟨.inr x, ⟨x, px, rfl⟩, fun _ _ z => z⟩
theorem ev_isl {p : γ ⊕ δ → Prop} {p3 : γ → Prop} (h : Ev β ta Γ (qU r1 r2) p) (k : ∀ x, p x → ∃ y, x = .inl y ∧ p3 y) : Ev β ta Γ r1 p3 := h.as fun x px => by
  obtain ⟨y, e, py⟩ := k x px
  subst e
  exact ⟨y, py, fun _ _ z => z⟩
theorem ev_isr {p : γ ⊕ δ → Prop} {p3 : δ → Prop} (h : Ev β ta Γ (qU r1 r2) p) (k : ∀ x, p x → ∃ y, x = .inr y ∧ p3 y) : Ev β ta Γ r2 p3 := h.as fun x px => by
  obtain ⟨y, e, py⟩ := k x px
  subst e
  exact ⟨y, py, fun _ _ z => z⟩
/-- a name by what it holds -/
theorem ev_v {i : Nat} [Mono r] {x : α} {p : α → Prop} (h : Γ[i]? = some (some (sh r x))) (k : p x) : Ev β (tVar i) Γ r p := (ev_var h).imp fun y e => by rw [e]; exact k
/-- one's own list, read -/
theorem ev_lenO {i : Nat} [Mono r] {xs : List α} (h : Γ[i]? = some (some (ownL r xs))) : Ev β (tCB (rLen2 K) (tCons (tVar i) tNil)) Γ qI (· = (xs.length : Int)) := fun H0 σ A H R Q q => by
  obtain ⟨v, hv, ⟨l, vs, rfl, h1, h2, h3⟩, _⟩ := R.ent i _ h
  refine ⟨_, hv, l, vs, rfl, .inl (SqL.of h2), ?_⟩
  rw [show vs.length = xs.length from Paired.length h3]
  exact q _ _ A H (Grow.refl R.sub) rfl rfl

/-! ### the box -/
theorem ev_boxN {i : Nat} {b : Addr} (hβ : β = some b) (h : Γ[i]? = some (some (boxE b))) : Ev β (tOp (rIxL K) (tVar i) (tC (.int 1))) Γ qI (fun n => 0 ≤ n) := fun H0 σ A H R Q q => by
  obtain ⟨v, h1, h2, _⟩ := R.ent i _ h
  have h2 : v = .ref b := h2
  subst h2
  obtain ⟨q1, r, xs, n, e1, e2, e3, e4⟩ := R.boxOk hβ
  exact ⟨_, h1, b, _, 1, _, rfl, rfl, SqL.of e1, rfl, q _ n A H (Grow.refl R.sub) e3 rfl⟩
theorem ev_boxR {i : Nat} {b : Addr} (hβ : β = some b) (h : Γ[i]? = some (some (boxE b))) : Ev β (tOp (rIxL K) (tVar i) (tC (.int 0))) Γ (rL qI) (fun xs => xs.length ≤ 100000) := fun H0 σ A H R Q q => by
  obtain ⟨v, h1, h2, _⟩ := R.ent i _ h
  have h2 : v = .ref b := h2
  subst h2
  obtain ⟨q1, r, xs, n, e1, e2, e3, e4⟩ := R.boxOk hβ
  exact ⟨_, h1, b, _, 0, _, rfl, rfl, SqL.of e1, rfl, q _ xs A H (Grow.refl R.sub) e4 ⟨r, _, rfl, e2, ints_paired⟩⟩
/-- box[1] = e -/
theorem tr_setBox {F : Fr} {D : Ends} {u : TS} {i : Nat} {b : Addr} (hβ : F.bx = some b) (hΓ : Γ[i]? = some (some (boxE b))) (h : Ev F.bx te Γ qI pi) (h0 : ∀ n, pi n → 0 ≤ n) (k : ∀ n, pi n → Tr F Γ u D) : Tr F Γ (tSeq (tAsg te (gSub (tVar i) (tC (.int 1)) rSetL)) u) D := fun σ H ⟨A, l, gr, R⟩ =>
  h F.H0 σ A H R _ fun v n B H1 g pn ev => by
    cases ev
    have R1 := R.grow g
    obtain ⟨w, h1, h2, _⟩ := R1.ent i _ hΓ
    have h2 : w = .ref b := h2
    subst h2
    obtain ⟨q1, r, xs, m, e1, e2, e3, e4⟩ := R1.boxOk hβ
    refine ⟨_, h1, b, _, 1, 1, rfl, rfl, e1, rfl, k n pn _ _ ⟨B, l.trans g.le, gr.trans (g.trans ?_), R1.grow ?_⟩⟩
    all_goals
      refine ⟨Le.refl, fun a o z => ?_, fun a o nb z1 z2 => ⟨z1, ?_⟩, fun b' eb z1 z2 => ⟨z1, ?_⟩⟩
      · rw [upd_ne (fun y => by rw [y, q1] at z; cases z)]; exact R1.sub a o z
      · rw [upd_ne (fun y => nb (by rw [hβ, y]))]; exact z2
      · rw [hβ] at eb; cases eb
        exact ⟨r, xs, n, upd_same, e2, h0 n pn, e4⟩
/-- [row, 0]: the box is made; from here on it is known -/
theorem tr_newBox {F : Fr} {D : Ends} {u : TS} {i : Nat} {p : List Int → Prop} {δ : Type} {r : RP δ} {Q : δ → Prop} (h : Ev F.bx ta Γ (rL qI) p) (hl : ∀ xs, p xs → xs.length ≤ 100000) (hn : F.bx = none) (hQ : Rt F r Q D.rt) {Γ' : EnvA} (hlen : Γ'.length = Γ.length) (hsh : ∀ (j : Nat) (e : Ent), Γ'[j]? = some (some e) → Γ[j]? = some (some e) ∧ j ≠ i ∧ ∀ H v a, ¬ e.fp H v a)
    (k : ∀ (b : Addr) (F' : Fr), F'.bx = some b → Rt F' r Q D.rt → Tr F' (Γ'.set i (some (boxE b))) u D) : Tr F Γ (tSeq (tAsg (tLst (tCons ta (tCons (tC (.int 0)) tNil))) (gName i)) u) D := fun σ H ⟨A, l, gr, R⟩ =>
  h F.H0 σ A H R _ fun v xs B H1 g px ⟨ro, vs, ev, e1, e2⟩ => ⟨by show 2 ≤ sizeLine; decide, fun b hb => by
    subst ev
    have R1 := R.grow g
    have hB : B b = none := g.sub.no hb
    have g1 : Grow F.bx B H1 B (upd H1 b (.lst [.ref ro, .int 0])) := Grow.newOwn g.sub hb
    have hR0 : F.H0 b = none := R1.h0 b hb
    have eb : upd H1 b (HO.lst [.ref ro, .int 0]) b = some (.lst [.ref ro, .int 0]) := upd_same
    have GG := (gr.trans g).trans g1
    have R2 := R1.grow g1
    have G : ∀ {j : Nat} {e : Ent}, (Γ'.set i (some (boxE b)))[j]? = some (some e) → (j = i ∧ e = boxE b ∧ (σ.set i (some (.ref b)))[j]? = some (some (.ref b))) ∨ (j ≠ i ∧ Γ[j]? = some (some e) ∧ (σ.set i (some (.ref b)))[j]? = σ[j]? ∧ ∀ H v a, ¬ e.fp H v a) := by
      intro j e hj
      by_cases q : i = j
      · subst q
        have hi : i < Γ'.length := by
          by_cases z : i < Γ'.length
          · exact z
          · rw [List.getElem?_eq_none (by rw [List.length_set]; omega)] at hj; cases hj
        rw [List.getElem?_set_self hi] at hj
        have := R.len
        exact .inl ⟨rfl, (Option.some.inj (Option.some.inj hj)).symm, List.getElem?_set_self (by omega)⟩
      · rw [List.getElem?_set_ne q] at hj
        obtain ⟨z1, z2, z3⟩ := hsh j e hj
        exact .inr ⟨z2, z1, List.getElem?_set_ne q, z3⟩
    refine k b ⟨some b, B, upd H1 b (.lst [.ref ro, .int 0]), B⟩ rfl (fun v x C H' g2 qx rx => hQ v x C H' ⟨GG.le.trans g2.le, g2.sub, fun a o n z1 z2 => ?_, fun b' eb => by rw [hn] at eb; cases eb⟩ qx rx) _ _ ⟨B, Le.refl, Grow.refl g1.sub, g1.sub, ?_, fun a z => z, fun b' eb => ?_, fun j e hj => ?_, fun j m e e' v v' a n z1 z2 z3 z4 z5 => ?_⟩
    · obtain ⟨y1, y2⟩ := GG.own a o n z1 z2
      exact g2.own a o (fun z => by cases z; rw [hR0] at z2; cases z2) y1 y2
    · rw [List.length_set, List.length_set, hlen]; exact R.len
    · cases eb
      exact ⟨hB, ⟨ro, xs, 0, eb, by rw [← paired_ints e2]; exact e1, Int.le_refl _, hl xs px⟩, _, eb⟩
    · rcases G hj with ⟨rfl, rfl, q⟩ | ⟨q1, q2, q3, q4⟩
      · exact ⟨.ref b, q, rfl, fun _ z => z.elim⟩
      · obtain ⟨w, y1, y2, _⟩ := R2.ent j e q2
        exact ⟨w, by rw [q3]; exact y1, y2, fun a z => (q4 _ _ _ z).elim⟩
    · rcases G z1 with ⟨rfl, rfl, q⟩ | ⟨q1, q2, q3, q4⟩
      · exact (show False from z5).elim
      · exact (q4 _ _ _ z5).elim⟩
end
end Rf
/-! Dx1: dicts whose keys are tuples of whole numbers, the tuples tracked or written; rules by readings. -/
namespace Rf
open PySem PySem.Spec PyProof.Rows L2

abbrev DV := List (List Int × Addr × V)
abbrev tk (P : Program) (w : World) : HeapKind P w (List Int) := tupleKind (intKind P w)
def DRel (p : List Int × Addr × V) (q : List Int × Addr × Value) : Prop := p.1 = q.1 ∧ p.2.1 = q.2.1 ∧ RelV p.2.2 q.2.2
def dphi (P : Program) (w : World) (a : Addr) (xs : DV) (h : Heap) : Prop := xs.length ≤ sizeLine ∧ (a == sysModules) = false ∧ ∃ vs : List (List Int × Addr × Value), Paired DRel xs vs ∧ (vs.map (·.1)).Nodup ∧
  ∃ o es ep, h.get? a = some o ∧ o.ExactDict ∧ o.data = .dict es ep ∧ es.toList = vs.map (entryOfKey (tk P w))
def DO (P : Program) (w : World) (a : Addr) (xs : DV) : HO := .ext (dphi P w a xs)
def RdX (P : Program) (w : World) (H : Hp) (a : Addr) (xs : DV) : Prop := H a = some (DO P w a xs) ∨ ∃ o, H a = some (.frz o (DO P w a xs))
def KeysOk (K : PySem.W.Frag) (H : Hp) (xs : DV) : Prop := ∀ x ∈ xs, SqT K H x.2.1 (x.1.map V.int)
def valD (xs : DV) (k : List Int) : Option V := (xs.find? fun x => decide (x.1 = k)).map (·.2.2)
def putD (xs : DV) (k : List Int) (b : Addr) (v : V) : DV := if (valD xs k).isSome then xs.map (fun x => if x.1 = k then (x.1, x.2.1, v) else x) else xs ++ [(k, b, v)]
theorem valD_nil {k : List Int} : valD [] k = none := rfl
theorem valD_pos {p : List Int × Addr × V} {r : DV} {k : List Int} (e : p.1 = k) : valD (p :: r) k = some p.2.2 := by simp [valD, List.find?_cons, e]
theorem valD_neg {p : List Int × Addr × V} {r : DV} {k : List Int} (e : ¬ p.1 = k) : valD (p :: r) k = valD r k := by simp [valD, List.find?_cons, e]
theorem drel_val {xs : DV} {vs : List (List Int × Addr × Value)} (r : Paired DRel xs vs) (k : List Int) : RelO (valD xs k) ((atKey vs k).map (·.2)) := by
  induction r with
  | nil => exact True.intro
  | @cons p q ps qs h t ih =>
    obtain ⟨h1, _, h2⟩ := h
    by_cases e : p.1 = k
    · have e' : q.1 = k := h1.symm.trans e
      have b : atKey (q :: qs) k = some q.2 := by simp [atKey, List.find?_cons, e']
      rw [valD_pos e, b]; exact h2
    · have e' : ¬ q.1 = k := fun z => e (h1.trans z)
      have b : atKey (q :: qs) k = atKey qs k := by simp [atKey, List.find?_cons, e']
      rw [valD_neg e, b]; exact ih
theorem drel_put {xs : DV} {vs : List (List Int × Addr × Value)} (r : Paired DRel xs vs) (k : List Int) (b : Addr) {v : V} {u : Value} (rv : RelV v u) : Paired DRel (putD xs k b v) (storedH vs k b u) := by
  have e : (valD xs k).isSome = (atKey vs k).isSome := by
    rw [(drel_val r k).isSome_eq, Option.isSome_map]
  unfold putD storedH
  rw [e]
  by_cases q : (atKey vs k).isSome = true
  · rw [if_pos q, if_pos q]
    clear e q
    induction r with
    | nil => exact .nil
    | @cons p q ps qs h t ih =>
      rw [List.map_cons, List.map_cons]
      refine .cons ?_ ih
      obtain ⟨h1, h2, h3⟩ := h
      unfold putAt
      by_cases e : p.1 = k
      · rw [if_pos e, if_pos (h1.symm.trans e)]; exact ⟨h1, h2, rv⟩
      · rw [if_neg e, if_neg (fun z => e (h1.trans z))]; exact ⟨h1, h2, h3⟩
  · rw [if_neg q, if_neg q]; exact Paired.snoc r ⟨rfl, rfl, rv⟩
theorem putD_len (xs : DV) (k : List Int) (b : Addr) (v : V) : (putD xs k b v).length ≤ xs.length + 1 := by
  unfold putD; split <;> simp
theorem KeysOk.put {K : PySem.W.Frag} {H : Hp} {xs : DV} (h : KeysOk K H xs) {k : List Int} {b : Addr} (v : V) (hb : SqT K H b (k.map V.int)) : KeysOk K H (putD xs k b v) := by
  unfold putD
  split
  · intro x hx
    obtain ⟨y, hy, rfl⟩ := List.mem_map.mp hx
    have := h y hy
    split <;> exact this
  · intro x hx
    rcases List.mem_append.mp hx with q | q
    · exact h x q
    · cases List.mem_singleton.mp q; exact hb

/-! ### over the invariant -/
section
variable {X : Cx} {pins : List (Addr × Obj)} {σ : L2.St} {H : Hp} {s : Shared} {a b : Addr} {xs : DV} {k : List Int}
theorem iitems_are {P : Program} {w : World} : ∀ {ks : List Int} {us : List Value}, Vals (ks.map V.int) us → ItemsAre (intKind P w) ks us
  | [], _, r => by rw [List.map_nil] at r; cases r; exact .nil
  | k :: ks, _, r => by
    rw [List.map_cons] at r
    cases r with
    | cons h t =>
      obtain ⟨tt, rfl⟩ := h
      exact .cons (by show Value.isInt k (.int k tt) = true; simp [Value.isInt]) (iitems_are t)
theorem key_at (I : Inv X pins σ H s) (h : SqT X.K H b (k.map V.int)) : (tk X.prog X.w).is s.heap k b := by
  obtain ⟨its, r, ⟨o, h1, h2, n, h3⟩, _⟩ := I.tuple h
  exact ⟨o, its.toArray, n, h1, h2, h3, by simpa using iitems_are r⟩
theorem dphi_of (I : Inv X pins σ H s) (e : RdX X.prog X.w H a xs) : dphi X.prog X.w a xs s.heap := by
  rcases e with e | ⟨o, e⟩
  · exact (I.hok a _ e).1
  · obtain ⟨_, q⟩ := I.hok a _ e
    exact q.1
theorem dd_of (I : Inv X pins σ H s) (e : RdX X.prog X.w H a xs) (hk : KeysOk X.K H xs) : xs.length ≤ sizeLine ∧ (a == sysModules) = false ∧ ∃ vs, Paired DRel xs vs ∧ s.heap.DictOfH (tk X.prog X.w) a vs := by
  obtain ⟨z, hd, vs, r, nd, o, es, ep, h1, h2, h3, h4⟩ := dphi_of I e
  refine ⟨z, hd, vs, r, o, es, ep, h1, h2, h3, h4, fun x hx => ?_, nd⟩
  have all : ∀ {l : DV} {m : List (List Int × Addr × Value)}, Paired DRel l m → KeysOk X.K H l → ∀ x ∈ m, (tk X.prog X.w).is s.heap x.1 x.2.1 := by
    intro l m q
    induction q with
    | nil => intro _ x hx; exact nomatch hx
    | @cons p q ps qs hq t ih =>
      intro hk x hx
      rcases List.mem_cons.mp hx with e | hx
      · subst e
        obtain ⟨q1, q2, _⟩ := hq
        rw [← q1, ← q2]
        exact key_at I (hk p List.mem_cons_self)
      · exact ih (fun y hy => hk y (List.mem_cons_of_mem _ hy)) x hx
  exact all r hk x hx
theorem do_new {P : Program} {w : World} {H' : Hp} {h' : Heap} {vs : List (List Int × Addr × Value)} (z : xs.length ≤ sizeLine) (hd : (a == sysModules) = false) (r : Paired DRel xs vs) (dd : h'.DictOfH (tk P w) a vs) : ObjOk P w H' h' a (DO P w a xs) := by
  obtain ⟨o, es, ep, h1, h2, h3, h4, _, h5⟩ := dd
  refine ⟨⟨z, hd, vs, r, h5, o, es, ep, h1, h2, h3, h4⟩, ⟨o, h1⟩, fun g1 g2 q kk => ?_⟩
  obtain ⟨z', hd', vs', r', h5', o', es', ep', h1', h2', h3', h4'⟩ := q
  exact ⟨z', hd', vs', r', h5', o', es', ep', kk _ h1', h2', h3', h4'⟩
theorem do_empty {P : Program} {w : World} {H : Hp} (h : Heap) (hb : sysModules < h.objs.size) : ObjOk P w H (h.push { cls := .type "dict", data := .dict #[] }) h.objs.size (DO P w h.objs.size []) :=
  do_new (Nat.zero_le _) (beq_eq_false_iff_ne.mpr (Ne.symm (Nat.ne_of_lt hb))) .nil (Heap.DictOfH.new h)
theorem mut_do {P : Program} {w : World} : Mut (some (DO P w a xs)) := True.intro
end

/-! ### rules -/
section
variable {X : Cx} {P : Program} {w : World} {K : PySem.W.Frag} {pos pos' apos cpos tpos : Pos} {o e f i value : Expr} {td ty tx tv : TE}
/-- {} -/
def tXNew (P : Program) (w : World) : TE := fun _ H Q => ∀ p, H p = none → Q (.ref p) (upd H p (DO P w p []))
theorem xd_new (hP : X.prog = P) (hw : X.w = w) : PE X (.Dict [] [] pos) (tXNew P w) := ⟨fun pins s σ H Q I h => by
  subst hP hw
  exact wpAny_Dict_empty ⟨.ref s.heap.objs.size, _, I.laid (a := s.heap.objs.size) (o := DO X.prog X.w s.heap.objs.size []) (t' := s.toks) (fun _ _ q => Heap.get?_push_of_some _ q) (Nat.le_refl _) (do_empty s.heap I.big), rfl, h _ (I.hok.fresh (Nat.le_refl _))⟩⟩
theorem xd_typeIs {pins : List (Addr × Obj)} {σ : L2.St} {H : Hp} {s : Shared} {a : Addr} {xs : DV} (I : Inv X pins σ H s) (g : RdX X.prog X.w H a xs) : s.TypeIs (.ref a) "dict" ∧ (∀ b, Value.ref a = .ref b → ∃ ob, s.heap.get? b = some ob ∧ ob.dict = none) := by
  obtain ⟨_, _, vs, _, _, ob, _, _, h1, h2, _⟩ := dphi_of I g
  exact ⟨⟨ob, h1, h2.1⟩, fun b q => by cases q; exact ⟨ob, h1, h2.2.1⟩⟩
/-- d[k] -/
def tXGet (P : Program) (w : World) (K : PySem.W.Frag) (td ty : TE) : TE := fun σ H Q => td σ H fun x H1 => ty σ H1 fun y H2 => ∃ a xs k b v, x = .ref a ∧ RdX P w H2 a xs ∧ KeysOk K H2 xs ∧ y = .ref b ∧ SqT K H2 b (k.map V.int) ∧ valD xs k = some v ∧ Q v H2
theorem xd_get (hP : X.prog = P) (hw : X.w = w) (hK : X.K = K) (hu : X.A.units + 1 < cLine) (ho : PE X o td) (hi : PE X i ty) (hs : NoSl i) : PE X (.Subscript o i pos) (tXGet P w K td ty) := by
  subst hP hw hK
  refine ⟨fun pins s σ H Q I h => ?_⟩
  refine subD_of PySem.F.slot_dict_getitem.lookup hs (thn (ho.run pins s σ H _ I h) fun u s1 ⟨x, H1, I1, rx, q1⟩ => thn (hi.run pins s1 σ H1 _ I1 q1) fun iv s2 ⟨y, H2, I2, ry, a, xs, k, b, v, ex, g, gk, ey, gb, hv, q2⟩ => ?_)
  subst ex ey
  obtain rfl : u = Value.ref a := rx
  obtain rfl : iv = Value.ref b := ry
  refine ⟨(xd_typeIs I2 g).1, ?_⟩
  obtain ⟨z, hd, vs, rel, dd⟩ := dd_of I2 g gk
  obtain ⟨w', hw, rw'⟩ := RelO.some_of (v := v) (o := (atKey vs k).map (·.2)) (by rw [← hv]; exact drel_val rel k)
  obtain ⟨p, hp, hp2⟩ := Option.map_eq_some_iff.mp hw
  refine wpAny_getItem_heap (tupleKind_room_in1 hu) (key_at I2 gb) dd hp ?_
  rw [hp2]
  exact ⟨v, H2, I2.tok _, rw', q2⟩
/-- k in d -/
def tXIn (P : Program) (w : World) (K : PySem.W.Frag) (ty td : TE) : TE := fun σ H Q => ty σ H fun y H1 => td σ H1 fun x H2 => ∃ a xs k b, x = .ref a ∧ RdX P w H2 a xs ∧ KeysOk K H2 xs ∧ y = .ref b ∧ SqT K H2 b (k.map V.int) ∧ Q (.bl (valD xs k).isSome) H2
theorem xc_in (hP : X.prog = P) (hw : X.w = w) (hK : X.K = K) (hu : X.A.units + 1 < cLine) (hi : PE X i ty) (ho : PE X o td) : PC X .In i o (tXIn P w K ty td) := by
  subst hP hw hK
  refine ⟨fun pins s σ H Q I h => ?_⟩
  refine thn (hi.run pins s σ H _ I h) fun iv s1 ⟨y, H1, I1, ry, q1⟩ => thn (ho.run pins s1 σ H1 _ I1 q1) fun u s2 ⟨x, H2, I2, rx, a, xs, k, b, ex, g, gk, ey, gb, q2⟩ => ?_
  subst ex ey
  obtain rfl : u = Value.ref a := rx
  obtain rfl : iv = Value.ref b := ry
  obtain ⟨z, hd, vs, rel, dd⟩ := dd_of I2 g gk
  refine wpAny_in_heap (tupleKind_room_in1 hu) (key_at I2 gb) hd dd ?_
  have q := (drel_val rel k).isSome_eq
  rw [Option.isSome_map] at q
  rw [← q]
  exact ⟨.bl _, H2, I2.tok _, rfl, q2⟩
/-- d.get(k), d.get(k, x) -/
def tXGet1 (P : Program) (w : World) (K : PySem.W.Frag) (td ty : TE) : TE := fun σ H Q => td σ H fun x H1 => ∃ a xs0, x = .ref a ∧ RdX P w H1 a xs0 ∧ ty σ H1 fun y H2 => ∃ xs k b, RdX P w H2 a xs ∧ KeysOk K H2 xs ∧ y = .ref b ∧ SqT K H2 b (k.map V.int) ∧ Q ((valD xs k).getD .non) H2
def tXGet2 (P : Program) (w : World) (K : PySem.W.Frag) (td ty tx : TE) : TE := fun σ H Q => td σ H fun x H1 => ∃ a xs0, x = .ref a ∧ RdX P w H1 a xs0 ∧ ty σ H1 fun y H2 => tx σ H2 fun z H3 => ∃ xs k b, RdX P w H3 a xs ∧ KeysOk K H3 xs ∧ y = .ref b ∧ SqT K H3 b (k.map V.int) ∧ Q ((valD xs k).getD z) H3
theorem xd_get1 (hP : X.prog = P) (hw : X.w = w) (hK : X.K = K) (hu : X.A.units + 1 < cLine) (ho : PE X o td) (he : PE X e ty) (m : M1 X o "get" apos e cpos) : PE X (.Call (.Attribute o "get" apos) [e] [] cpos) (tXGet1 P w K td ty) := by
  subst hP hw hK
  refine ⟨fun pins s σ H Q I h => ?_⟩
  refine wpAny_Call_method m.base m.few m.line PySem.F.plainAttrs_dict PySem.F.slot_dict_get PySem.F.type_dict_get (thn (ho.run pins s σ H _ I h) fun u s1 ⟨x, H1, I1, rx, a, xs0, ex, d, q1⟩ => ?_)
  subst ex
  obtain rfl : u = Value.ref a := rx
  obtain ⟨t1, t2⟩ := xd_typeIs I1 d
  refine ⟨t1, t2, ?_⟩
  rw [m.trees]
  refine Calls.callWith_builtin rfl (Calls.evalArgs_plain (Calls.spliced_cons (thn (he.run pins s1 σ H1 _ I1 q1) fun iv s2 ⟨y, H2, I2, ry, xs, k, b, g, gk, ey, gb, q2⟩ => Calls.spliced_nil ?_)))
  subst ey
  obtain rfl : iv = Value.ref b := ry
  obtain ⟨z, hd, vs, rel, dd⟩ := dd_of I2 g gk
  exact call_meetsIn PySem.F.slot_dict_get dd.typeIs PySem.F.entry_dict_get (PySem.F.args_dict_get_2 _ _) (meetsH_dict_get (tk X.prog X.w) a b hd) ⟨tupleKind_room_in1 hu, k, vs, key_at I2 gb, dd, ⟨_, H2, I2.tok _, (drel_val rel k).getD (d := .non) (d' := .none) rfl, q2⟩⟩
theorem xd_get2 (hP : X.prog = P) (hw : X.w = w) (hK : X.K = K) (hu : X.A.units + 1 < cLine) (ho : PE X o td) (he : PE X e ty) (hf : PE X f tx) (m : M2 X o "get" apos e f cpos) : PE X (.Call (.Attribute o "get" apos) [e, f] [] cpos) (tXGet2 P w K td ty tx) := by
  subst hP hw hK
  refine ⟨fun pins s σ H Q I h => ?_⟩
  refine wpAny_Call_method m.base m.few m.line PySem.F.plainAttrs_dict PySem.F.slot_dict_get PySem.F.type_dict_get (thn (ho.run pins s σ H _ I h) fun u s1 ⟨x, H1, I1, rx, a, xs0, ex, d, q1⟩ => ?_)
  subst ex
  obtain rfl : u = Value.ref a := rx
  obtain ⟨t1, t2⟩ := xd_typeIs I1 d
  refine ⟨t1, t2, ?_⟩
  rw [m.trees]
  refine Calls.callWith_builtin rfl (Calls.evalArgs_plain (Calls.spliced_cons (thn (he.run pins s1 σ H1 _ I1 q1) fun iv s2 ⟨y, H2, I2, ry, q2⟩ =>
    Calls.spliced_cons (thn (hf.run pins s2 σ H2 _ I2 q2) fun fv s3 ⟨z, H3, I3, rz, xs, k, b, g, gk, ey, gb, q3⟩ => Calls.spliced_nil ?_))))
  subst ey
  obtain rfl : iv = Value.ref b := ry
  obtain ⟨_, hd, vs, rel, dd⟩ := dd_of I3 g gk
  exact call_meetsIn PySem.F.slot_dict_get dd.typeIs PySem.F.entry_dict_get (PySem.F.args_dict_get_3 _ _ _) (meetsH_dict_get_default (tk X.prog X.w) a b hd fv) ⟨tupleKind_room_in1 hu, k, vs, key_at I3 gb, dd, ⟨_, H3, I3.tok _, (drel_val rel k).getD rz, q3⟩⟩
/-- d.setdefault(k, x) -/
def tXSetd (P : Program) (w : World) (K : PySem.W.Frag) (td ty tx : TE) : TE := fun σ H Q => td σ H fun x H1 => ∃ a xs0, x = .ref a ∧ RdX P w H1 a xs0 ∧ ty σ H1 fun y H2 => tx σ H2 fun z H3 => ∃ xs k b, H3 a = some (DO P w a xs) ∧ KeysOk K H3 xs ∧ y = .ref b ∧ SqT K H3 b (k.map V.int) ∧ xs.length < sizeLine ∧
  (∀ v, valD xs k = some v → Q v H3) ∧ (valD xs k = none → Q z (upd H3 a (DO P w a (putD xs k b z))))
theorem keys_up {K : PySem.W.Frag} {H : Hp} {a : Addr} {φ ψ : Heap → Prop} {xs : DV} (h : KeysOk K H xs) (ha : H a = some (.ext φ)) : KeysOk K (upd H a (.ext ψ)) xs := fun x hx => by
  rcases h x hx with (q | ⟨o, q⟩) | q
  · exact .inl (.inl (by rw [upd_ne (fun z => by rw [z, ha] at q; cases q)]; exact q))
  · exact .inl (.inr ⟨o, by rw [upd_ne (fun z => by rw [z, ha] at q; cases q)]; exact q⟩)
  · exact .inr q
theorem xd_setd (hP : X.prog = P) (hw : X.w = w) (hK : X.K = K) (hu : X.A.units + 1 < cLine) (ho : PE X o td) (he : PE X e ty) (hf : PE X f tx) (m : M2 X o "setdefault" apos e f cpos) : PE X (.Call (.Attribute o "setdefault" apos) [e, f] [] cpos) (tXSetd P w K td ty tx) := by
  subst hP hw hK
  refine ⟨fun pins s σ H Q I h => ?_⟩
  refine wpAny_Call_method m.base m.few m.line PySem.F.plainAttrs_dict PySem.F.slot_dict_setdefault PySem.F.type_dict_setdefault (thn (ho.run pins s σ H _ I h) fun u s1 ⟨x, H1, I1, rx, a, xs0, ex, d, q1⟩ => ?_)
  subst ex
  obtain rfl : u = Value.ref a := rx
  obtain ⟨t1, t2⟩ := xd_typeIs I1 d
  refine ⟨t1, t2, ?_⟩
  rw [m.trees]
  refine Calls.callWith_builtin rfl (Calls.evalArgs_plain (Calls.spliced_cons (thn (he.run pins s1 σ H1 _ I1 q1) fun iv s2 ⟨y, H2, I2, ry, q2⟩ =>
    Calls.spliced_cons (thn (hf.run pins s2 σ H2 _ I2 q2) fun fv s3 ⟨z, H3, I3, rz, xs, k, b, g, gk, ey, gb, hl, q3, q4⟩ => Calls.spliced_nil ?_))))
  subst ey
  obtain rfl : iv = Value.ref b := ry
  obtain ⟨_, hd, vs, rel, dd⟩ := dd_of I3 (.inl g) gk
  have hz : vs.length ≤ sizeLine := by rw [← Paired.length rel]; exact Nat.le_of_lt hl
  refine call_setdefault_heap (knd := tk X.prog X.w) (hsz := hz) (tupleKind_room_in1 hu) (key_at I3 gb) hd dd (fun p hp => ?_) fun hn h' dd' hs => ?_
  · have q := drel_val rel k
    rw [hp] at q
    cases hv : valD xs k with
    | none => rw [hv] at q; exact (show False from q).elim
    | some v => rw [hv] at q; exact ⟨v, H3, I3.tok _, q, q3 v hv⟩
  · have q := drel_val rel k
    rw [hn] at q
    cases hv : valD xs k with
    | some v => rw [hv] at q; exact (show False from q).elim
    | none =>
      have hl2 : (putD xs k b z).length ≤ sizeLine := by have := putD_len xs k b z; omega
      have he : ∃ q, h'.get? a = some q := let ⟨q, _, _, hq, _⟩ := dd'; ⟨q, hq⟩
      exact ⟨z, _, d_write I3 (by rw [g]; exact mut_do) hs he (do_new hl2 hd (drel_put rel k b rz) dd'), rz, q4 hv⟩
/-- d[k] = v -/
def sXPut (P : Program) (w : World) (K : PySem.W.Frag) (td ty tv : TE) : TS := fun D σ H => tv σ H fun v H1 => td σ H1 fun x H2 => ty σ H2 fun y H3 => ∃ a xs k b, x = .ref a ∧ H3 a = some (DO P w a xs) ∧ KeysOk K H3 xs ∧ y = .ref b ∧ SqT K H3 b (k.map V.int) ∧ xs.length < sizeLine ∧ D.nx σ (upd H3 a (DO P w a (putD xs k b v)))
theorem xs_put (hP : X.prog = P) (hw : X.w = w) (hK : X.K = K) (hu : X.A.units + 1 < cLine) (ho : PE X o td) (hi : PE X i ty) (hv : PE X value tv) (hs : swapsWith value (some (.Subscript o i pos')) pos.line X.env = pure false) :
    PS X (.Assign [.Subscript o i pos'] value pos) (sXPut P w K td ty tv) := by
  subst hP hw hK
  refine ⟨fun pins s σ H D I h => ?_⟩
  refine wpAny_Assign_Subscript (thn (hv.run pins s σ H _ I h) fun r s1 ⟨v, H1, I1, rv, q1⟩ => thn (ho.run pins s1 σ H1 _ I1 q1) fun u s2 ⟨x, H2, I2, rx, q2⟩ => thn (hi.run pins s2 σ H2 _ I2 q2) fun iv s3 ⟨y, H3, I3, ry, a, xs, k, b, ex, g, gk, ey, gb, hl, q3⟩ => ?_) hs
  subst ex ey
  obtain rfl : u = Value.ref a := rx
  obtain rfl : iv = Value.ref b := ry
  obtain ⟨_, hd, vs, rel, dd⟩ := dd_of I3 (.inl g) gk
  have hz : vs.length ≤ sizeLine := by rw [← Paired.length rel]; exact Nat.le_of_lt hl
  have hl2 : (putD xs k b v).length ≤ sizeLine := by have := putD_len xs k b v; omega
  refine wpAny_setItem_heap (hsz := hz) (tupleKind_room_in1 hu) (key_at I3 gb) dd fun h' dd' hs => ⟨σ, _, ?_, q3⟩
  have he : ∃ q, h'.get? a = some q := let ⟨q, _, _, hq, _⟩ := dd'; ⟨q, hq⟩
  exact d_write I3 (by rw [g]; exact mut_do) hs he (do_new hl2 hd (drel_put rel k b rv) dd')
/-- {k: v}: one pair; the new dict stands empty while the pair is made -/
def tXDisp1 (P : Program) (w : World) (K : PySem.W.Frag) (tk' tv : TE) : TE := fun σ H Q => ∀ p, H p = none → tk' σ (upd H p (DO P w p [])) fun y H1 => tv σ H1 fun v H2 => ∃ k b, H2 p = some (DO P w p []) ∧ y = .ref b ∧ SqT K H2 b (k.map V.int) ∧ Q (.ref p) (upd H2 p (DO P w p [(k, b, v)]))
end
end Rf
/-! Dx2: walks over such dicts, displays of one pair, dict comprehensions. -/
namespace Rf
open PySem PySem.Spec PyProof.Rows L2

section
variable {X : Cx} {pins : List (Addr × Obj)} {σ : L2.St} {H : Hp} {s : Shared} {d : Addr} {o : Obj} {xs : DV}
theorem frzX (I : Inv X pins σ H s) (h : H d = some (.frz o (DO X.prog X.w d xs))) : (d == sysModules) = false ∧ s.heap.get? d = some o ∧ o.ExactDict ∧ ∃ (es : Array DictEntry) (ep : Nat), o.data = .dict es ep ∧ es.size = xs.length ∧
    ∀ (i : Nat) (k : List Int) (q : Addr) (v : V), xs[i]? = some (k, q, v) → ∃ en : DictEntry, es[i]? = some en ∧ en.key = .ref q ∧ RelV v en.val := by
  obtain ⟨hd, ⟨z, hs, vs, r, nd, o', es, ep, h1, h2, h3, h4⟩, _⟩ := I.hok d _ h
  rw [hd] at h1; cases h1
  refine ⟨hs, hd, h2, es, ep, h3, ?_, fun i k q v e => ?_⟩
  · have l1 : es.size = vs.length := size_of_entries h4
    have l2 : xs.length = vs.length := Paired.length r
    omega
  · obtain ⟨y, hy, e1, e2, e3⟩ := paired_get r e
    have g := entry_at h4 i
    rw [hy] at g
    exact ⟨_, g, by show Value.ref y.2.1 = _; rw [← e2], e3⟩
end
/-- the pairs of the locked dict at d, each in a new tuple; its keys -/
def ItX (P : Program) (w : World) (d : Addr) (o : Obj) (xs : DV) : It :=
  ⟨fun i H => H d = some (.frz o (DO P w d xs)) ∧ i < xs.length, fun i H x H' => ∃ T k q v, xs[i]? = some (k, q, v) ∧ x = .ref T ∧ H T = none ∧ H' = upd H T (.tup [.ref q, v]), fun i H => H d = some (.frz o (DO P w d xs)) ∧ xs.length ≤ i⟩
def ItXk (P : Program) (w : World) (d : Addr) (o : Obj) (xs : DV) : It :=
  ⟨fun i H => H d = some (.frz o (DO P w d xs)) ∧ i < xs.length, fun i H x H' => H' = H ∧ ∃ k q v, xs[i]? = some (k, q, v) ∧ x = .ref q, fun i H => H d = some (.frz o (DO P w d xs)) ∧ xs.length ≤ i⟩
section
variable {P : Program} {w : World} {K : PySem.W.Frag} {tg : Expr} {d : Addr} {o : Obj} {es : Array DictEntry} {ep : Nat}
theorem turn_itemsX {xs : DV} {elts : List Expr} {kk : Nat} {tpos : Pos} (it : Addr) (hod : o.data = .dict es ep) :
    Turn P w K (.Tuple elts kk tpos) (ItX P w d o xs) [it] it (fun i h => ∃ ok ov, IsItemIter h it d i xs.length ep ok ov) where
  mem := by simp
  obj := fun i h st b hb => by
    have e : b = it := by simpa using hb
    subst e
    obtain ⟨ok, ov, e⟩ := st
    exact ⟨_, e, fun v z => nomatch z⟩
  keep := fun i h h' st k => let ⟨ok, ov, e⟩ := st; ⟨ok, ov, k it (by simp) _ e⟩
  item := by
    intro X hP hw hK hc i pins s σ H E I hf st hg
    subst hP hw hK
    obtain ⟨hd, hi⟩ := hg
    obtain ⟨hs, hgd, hx, es', ep', hdt, hsz, ent⟩ := frzX I hd
    obtain ⟨rfl, rfl⟩ := dict_ep hod hdt
    obtain ⟨⟨k, q, v⟩, hkv⟩ : ∃ p, xs[i]? = some p := ⟨xs[i], List.getElem?_eq_getElem hi⟩
    obtain ⟨en, hen, hkey, rv⟩ := ent i k q v hkv
    obtain ⟨ok, ov, he⟩ := st
    rw [← hsz] at he
    have hi' : i < es'.size := by omega
    have een : es'[i] = en := by
      rw [Array.getElem?_eq_getElem hi'] at hen
      exact Option.some.inj hen
    have hlt : it < s.heap.objs.size := Heap.lt_size he
    refine DT.nextI he ⟨o, hgd, hx, hdt⟩ hi' fun h' ho hT hz hk => ?_
    rw [een] at ho hT
    refine ⟨_, rfl, wpAny_letOwnedTupleGo_items (s := { s with heap := h' }) ho fun h'' he' sb => ?_⟩
    have hT2 : h''.get? s.heap.objs.size = some { cls := .type "tuple", data := .seq #[en.key, en.val] } := (sb.2 _ (Nat.ne_of_gt hlt)).trans hT
    have new : ObjOk X.prog X.w (upd H s.heap.objs.size (.tup [.ref q, v])) h'' s.heap.objs.size (.tup [.ref q, v]) :=
      ⟨by show 2 ≤ sizeLine; decide, [en.key, en.val], .cons hkey (.cons rv .nil), ⟨_, hT2, rfl, _, rfl⟩⟩
    have I1 : Inv X pins σ (upd H s.heap.objs.size (.tup [.ref q, v])) { s with heap := h'' } :=
      I.turnedNew (t' := s.toks) (ch := [it]) (fun b ob hb e => (sb.2 b (by simpa using hb)).trans (hk b ob (by simpa using hb) e)) hf (Nat.le_refl _) new
    refine ⟨.ref s.heap.objs.size, _, I1, rfl, ⟨_, k, q, v, hkv, rfl, I.hok.fresh (Nat.le_refl _), rfl⟩, ⟨en.key, en.val, ?_⟩, fun b hb => ?_⟩
    · rw [← hsz]; exact he'
    · have e : b = it := by simpa using hb
      rw [e, upd_ne (Nat.ne_of_lt hlt)]
      exact (hf it (by simp)).1
  done := by
    intro X hP hw hK hc i pins s σ H E I hf st hg
    subst hP hw hK
    obtain ⟨hd, hi⟩ := hg
    obtain ⟨f0, f1, f2, f3, f4, f5⟩ := hf it (by simp)
    obtain ⟨hs, hgd, hx, es', ep', hdt, hsz, ent⟩ := frzX I hd
    obtain ⟨rfl, rfl⟩ := dict_ep hod hdt
    obtain ⟨ok, ov, he⟩ := st
    rw [← hsz] at he
    exact DT.endI (I.ok.hd hc) he ⟨o, hgd, hx, hdt⟩ (by omega) fun h' eb => ⟨rfl, I.turned (t' := s.toks) (fun b ob hb e => eb b ob hb e) f0 f1 f3 f4 f5⟩
  self := fun A i s Q E st h => let ⟨_, _, e⟩ := st; PySem.W.kcp_self e h
theorem turn_keysX {xs : DV} (it : Addr) (hod : o.data = .dict es ep) : Turn P w K tg (ItXk P w d o xs) [it] it (fun i h => h.IsKeyIter it d i xs.length ep) where
  mem := by simp
  obj := fun i h st b hb => by
    have e : b = it := by simpa using hb
    subst e
    obtain ⟨oi, e, c, dd⟩ := st
    exact ⟨oi, e, fun v z => by rw [dd] at z; cases z⟩
  keep := fun i h h' st k => st.at fun oi e => k it (by simp) oi e
  item := by
    intro X hP hw hK hc i pins s σ H E I hf st hg
    subst hP hw hK
    obtain ⟨hd, hi⟩ := hg
    obtain ⟨f0, f1, f2, f3, f4, f5⟩ := hf it (by simp)
    obtain ⟨hs, hgd, hx, es', ep', hdt, hsz, ent⟩ := frzX I hd
    obtain ⟨rfl, rfl⟩ := dict_ep hod hdt
    obtain ⟨⟨k, q, v⟩, hkv⟩ : ∃ p, xs[i]? = some p := ⟨xs[i], List.getElem?_eq_getElem hi⟩
    obtain ⟨en, hen, hkey, rv⟩ := ent i k q v hkv
    refine next_key_item st hgd hdt hsz hen fun h' st' sb => ?_
    have I1 : Inv X pins σ H { s with heap := h' } := I.turned (t' := s.toks) (fun b ob hb e => (sb.2 b hb).trans e) f0 f1 f3 f4 f5
    obtain ⟨oi, e, c, dd⟩ := id st'
    exact ⟨en.key, rfl, go_of (s := { s with heap := h' }) e c dd (by decide) ⟨.ref q, H, I1, hkey, ⟨rfl, k, q, v, hkv, rfl⟩, st', fun b hb => (hf b hb).1⟩⟩
  done := by
    intro X hP hw hK hc i pins s σ H E I hf st hg
    subst hP hw hK
    obtain ⟨hd, hi⟩ := hg
    obtain ⟨f0, f1, f2, f3, f4, f5⟩ := hf it (by simp)
    obtain ⟨hs, hgd, hx, es', ep', hdt, hsz, ent⟩ := frzX I hd
    obtain ⟨rfl, rfl⟩ := dict_ep hod hdt
    exact next_key_end (I.ok.hd hc) st hgd hdt hsz hi fun h' eb => ⟨rfl, I.turned (t' := s.toks) (fun b ob hb e => eb b ob hb e) f0 f1 f3 f4 f5⟩
  self := fun A i s Q E st h => by
    refine wpAny_pyIter_slot st.typeIs F.slot_dict_keyiterator_iter (wpAny_call_entry F.slot_dict_keyiterator_iter st.typeIs F.entry_dict_keyiterator_iter ?_ (F.args_dict_keyiterator_iter_1 _))
    show wpAny _ _ (ret (.ref it)) _ _ s
    exact wpAny_pure ⟨_, rfl, "dict_keyiterator", _, st.typeIs, F.slot_dict_keyiterator_next.lookup, h⟩
end
/-- the dict is locked from here on -/
def iItX (P : Program) (w : World) (td : TE) : TI := fun σ H R => td σ H fun x H1 => ∃ d xs, x = .ref d ∧ ((∃ o, H1 d = some (.frz o (DO P w d xs)) ∧ R (ItX P w d o xs) H1) ∨ (H1 d = some (DO P w d xs) ∧ ∀ o, R (ItX P w d o xs) (upd H1 d (.frz o (DO P w d xs)))))
def iKyX (P : Program) (w : World) (td : TE) : TI := fun σ H R => td σ H fun x H1 => ∃ d xs, x = .ref d ∧ ((∃ o, H1 d = some (.frz o (DO P w d xs)) ∧ R (ItXk P w d o xs) H1) ∨ (H1 d = some (DO P w d xs) ∧ ∀ o, R (ItXk P w d o xs) (upd H1 d (.frz o (DO P w d xs)))))
section
variable {X : Cx} {P : Program} {w : World} {K : PySem.W.Frag} {tg e : Expr} {td : TE} {apos cpos : Pos}
theorem xi_items {elts : List Expr} {kk : Nat} {tpos : Pos} (hP : X.prog = P) (hw : X.w = w) (he : PE X e td) (hbase : attributeBase e "items" X.env (eval e X.env) = eval e X.env := by rfl) (hline : (apos.endLine == cpos.line) = true := by rfl) :
    PI X (.Tuple elts kk tpos) (.Call (.Attribute e "items" apos) [] [] cpos) (iItX P w td) := by
  subst hP hw
  refine ⟨fun pins s σ H R I h => ?_⟩
  refine wpAny_Call_method (T := "dict") (id := "dict.items") hbase rfl hline F.plainAttrs_dict F.slot_dict_items F.type_dict_items (thn (he.run pins s σ H _ I h) fun u s1 ⟨x, H1, I1, rx, d, xs, ex, q⟩ => ?_)
  subst ex
  obtain rfl : u = Value.ref d := rx
  have main : ∀ (o : Obj) (H2 : Hp), Inv X pins σ H2 s1 → H2 d = some (.frz o (DO X.prog X.w d xs)) → R (ItX X.prog X.w d o xs) H2 → s1.TypeIs (.ref d) "dict" ∧ (∀ b, Value.ref d = .ref b → ∃ ob, s1.heap.get? b = some ob ∧ ob.dict = none) ∧
      wpAny (model X.prog X.w) X.A (callWith cpos (.builtin "dict.items") [.ref d] (backTo cpos (starEach [] X.env)) (backToKw cpos (keywordEach [] X.env))) (fun v s2 => wpAny (model X.prog X.w) X.A (pyIter v) (PIE X pins σ (.Tuple elts kk tpos) R) X.xe s2) X.xe s1 := fun o H2 I2 hd q => by
    obtain ⟨t1, t2⟩ := xd_typeIs I2 (.inr ⟨o, hd⟩)
    refine ⟨t1, t2, ?_⟩
    obtain ⟨hs, hgd, hx, es, ep, hdt, hsz, ent⟩ := frzX I2 hd
    have I3 : Inv X pins σ H2 { s1 with heap := s1.heap.push { cls := .type "dict_items", data := .fields #[.ref d] } } := I2.kept (t' := s1.toks) fun b ob q => Heap.get?_push_of_some _ q
    have raw : DT.Raw s1.heap d es ep := ⟨o, hgd, hx, hdt⟩
    have fin : wpAny (model X.prog X.w) X.A (pyIter (.ref s1.heap.objs.size)) (PIE X pins σ (.Tuple elts kk tpos) R) X.xe { s1 with heap := s1.heap.push { cls := .type "dict_items", data := .fields #[.ref d] } } := by
      refine DT.iterI (d := d) (es := es) (ep := ep) ⟨_, Heap.get?_push_size _ rfl, rfl, rfl⟩ (raw.push _) (pi_one (tk := s1.toks) I3 _ (turn_itemsX _ hdt) ⟨.none, .none, ?_⟩ q)
      rw [← hsz]
      exact Heap.get?_push_size _ rfl
    show wpAny _ _ (callWith cpos (.builtin "dict.items") [.ref d] [] []) _ X.xe s1
    exact method_meetsIn F.slot_dict_items F.entry_dict_items rfl (PySem.evalArgs_none ⟨rfl, raw.typeIs, F.args_dict_items_1 _, _, DT.meetsItems (es := es) (ep := ep) hs, ⟨raw, fin⟩⟩)
  rcases q with ⟨o, hd, q⟩ | ⟨hd, q⟩
  · exact main o H1 I1 hd q
  · obtain ⟨od, I2⟩ := I1.lock hd mut_do
    exact main od _ I2 upd_same (q od)
theorem xi_keys (hP : X.prog = P) (hw : X.w = w) (he : PE X e td) : PI X tg e (iKyX P w td) := by
  subst hP hw
  refine ⟨fun pins s σ H R I h => ?_⟩
  refine thn (he.run pins s σ H _ I h) fun u s1 ⟨x, H1, I1, rx, d, xs, ex, q⟩ => ?_
  subst ex
  obtain rfl : u = Value.ref d := rx
  have main : ∀ (o : Obj) (H2 : Hp), Inv X pins σ H2 s1 → H2 d = some (.frz o (DO X.prog X.w d xs)) → R (ItXk X.prog X.w d o xs) H2 → wpAny (model X.prog X.w) X.A (pyIter (.ref d)) (PIE X pins σ tg R) X.xe s1 := fun o H2 I2 hd q => by
    obtain ⟨hs, hgd, hx, es, ep, hdt, hsz, ent⟩ := frzX I2 hd
    refine iter_keys hs hgd hx hdt (pi_one (tk := s1.toks) I2 _ (turn_keysX _ hdt) ⟨_, Heap.get?_push_size _ rfl, rfl, ?_⟩ q)
    rw [hsz] <;> rfl
  rcases q with ⟨o, hd, q⟩ | ⟨hd, q⟩
  · exact main o H1 I1 hd q
  · obtain ⟨od, I2⟩ := I1.lock hd mut_do
    exact main od _ I2 upd_same (q od)
theorem xd_disp1 {k v : Expr} {pos : Pos} {tk' tv : TE} (hP : X.prog = P) (hw : X.w = w) (hK : X.K = K) (hu : X.A.units < cLine) (hk : PE X k tk') (hv : PE X v tv) : PE X (.Dict [some k] [v] pos) (tXDisp1 P w K tk' tv) := by
  subst hP hw hK
  refine ⟨fun pins s σ H Q I q => ?_⟩
  have hn := I.hok.fresh (Nat.le_refl s.heap.objs.size)
  have I1 := I.laid (a := s.heap.objs.size) (o := DO X.prog X.w s.heap.objs.size []) (h' := s.heap.push { cls := .type "dict", data := .dict #[] }) (t' := s.toks) (fun _ _ q => Heap.get?_push_of_some _ q) (Nat.le_refl _) (do_empty s.heap I.big)
  have hu' : (tk X.prog X.w).room X.A := hu
  rw [arm_eval_Dict, zip_pairTrees [some k] [v] X.env pos rfl rfl, dictDisplay_pairs (pairTrees [some k] [v] X.env pos) (fun z => by cases z) (by show 1 < 17; omega)]
  refine wpAny_bind (wpAny_standAt (wpAny_bind (wpAny_subDictH (knd := tk X.prog X.w) (Q := fun d s' => wpAny (model X.prog X.w) X.A (pure (Value.ref d)) (EP X pins σ Q) X.xe s') hu' (by show 1 ≤ 15; omega) ?_)))
  refine pairTrees_cons_walk (thn (hk.run pins _ σ _ _ I1 (q _ hn)) fun u s1 ⟨x, H1, I2, rx, q1⟩ => thn (hv.run pins s1 σ H1 _ I2 q1) fun vv s2 ⟨y, H2, I3, ry, kk, b, hp, ex, hb, q2⟩ => pairTrees_nil_walk ?_)
  subst ex
  obtain rfl : u = Value.ref b := rx
  obtain ⟨z, hd, vs0, r0, dd⟩ := dd_of I3 (.inl hp) (fun _ h => nomatch h)
  cases r0
  refine ⟨[(kk, b, vv)], ⟨rfl, rfl, key_at I3 hb, trivial⟩, dd, fun h' tk' dd' hs => wpAny_pure ⟨.ref s.heap.objs.size, _, ?_, rfl, q2⟩⟩
  have he : ∃ q, h'.get? s.heap.objs.size = some q := let ⟨q, _, _, hq, _⟩ := dd'; ⟨q, hq⟩
  exact d_write I3 (by rw [hp]; exact mut_do) hs he (do_new (by show 1 ≤ sizeLine; decide) hd (.cons ⟨rfl, rfl, ry⟩ .nil) dd')
/-- {k: v for target in iter if ..} -/
def tXDc (P : Program) (w : World) (K : PySem.W.Frag) (wi : TI) (g : TG) (tt : TT) (tk tv : TE) (vs : List Nat) : TE := fun σ H Q => wi σ H fun J H1 => ∀ D, H1 D = none → ∃ W : Nat → Nat → Hp → Prop, (∃ m, W 0 m (upd H1 D (DO P w D []))) ∧ ∀ i m H, W i m H →
  (J.stop i H ∧ Q (.ref D) H) ∨ (J.go i H ∧ ∃ Nx : Hp → Prop, (∀ H', Nx H' → ∃ m', m' < m ∧ W (i + 1) m' H') ∧ ∀ x H', J.yld i H x H' → g x (wipe σ vs) H' fun σ2 H2 => wipe σ2 vs = wipe σ vs ∧ tt σ2 H2 fun b H3 =>
    if b = true then tk σ2 H3 fun y H4 => tv σ2 H4 fun z H5 => ∃ xs k b, y = .ref b ∧ SqT K H5 b (k.map V.int) ∧ H5 D = some (DO P w D xs) ∧ KeysOk K H5 xs ∧ xs.length < sizeLine ∧ Nx (upd H5 D (DO P w D (putD xs k b z))) else Nx H3)
theorem d_dictSetX {pins : List (Addr × Obj)} {σ : L2.St} {H : Hp} {s : Shared} {E : Value → Shared → Prop} {D b : Addr} {xs : DV} {k : List Int} {v : V} {r : Value} {Q : Unit → Shared → Prop} (hu : X.A.units < cLine) (I : Inv X pins σ H s) (hD : H D = some (DO X.prog X.w D xs)) (hk : KeysOk X.K H xs) (hb : SqT X.K H b (k.map V.int)) (hz : xs.length < sizeLine)
    (rv : RelV v r) (h : ∀ s', Inv X pins σ (upd H D (DO X.prog X.w D (putD xs k b v))) s' → Q () s') : wpAny (model X.prog X.w) X.A (dictSet D (.ref b) r) Q E s := by
  obtain ⟨_, hd, vs, rel, dd⟩ := dd_of I (.inl hD) hk
  have hzv : vs.length ≤ sizeLine := by rw [← Paired.length rel]; exact Nat.le_of_lt hz
  have hl : (putD xs k b v).length ≤ sizeLine := by have := putD_len xs k b v; omega
  have hu' : (tk X.prog X.w).room X.A := hu
  refine wpAny_dictSet_heap (hsz := hzv) hu' (key_at I hb) dd fun h' dd' hs => h _ ?_
  have he : ∃ q, h'.get? D = some q := let ⟨q, _, _, hq, _⟩ := dd'; ⟨q, hq⟩
  exact d_write I (by rw [hD]; exact mut_do) hs he (do_new hl hd (drel_put rel k b rv) dd')
theorem xd_comp {kx vx tg iter : Expr} {ifs : List Expr} {scope : Scope} {own : List (Str × Nat)} {pos : Pos} {wi : TI} {g : TG} {tt : TT} {tk tv : TE} (hP : X.prog = P) (hw : X.w = w) (hK : X.K = K) (hu : X.A.units < cLine) (hc : X.calm = true) (hN : X.N.Nodup) (hi : PI X tg iter wi) (ok : BlkOk X.N X.env.scope scope own)
    (hg : ∀ (s : Shared) (H : Hp) (C : Addr) (cl : List (Str × Addr)) (fp : List Addr), PG (X.blk s H scope (compEnvC scope cl C X.env) fp) tg g) (ht : ∀ (s : Shared) (H : Hp) (C : Addr) (cl : List (Str × Addr)) (fp : List Addr), PTs (X.blk s H scope (compEnvC scope cl C X.env) fp) ifs tt)
    (hk : ∀ (s : Shared) (H : Hp) (C : Addr) (cl : List (Str × Addr)) (fp : List Addr), PE (X.blk s H scope (compEnvC scope cl C X.env) fp) kx tk)
    (he : ∀ (s : Shared) (H : Hp) (C : Addr) (cl : List (Str × Addr)) (fp : List Addr), PE (X.blk s H scope (compEnvC scope cl C X.env) fp) vx tv) (hs : ∀ x, foldedSetIterable iter X.env x = pure x := by intro _; rfl) :
    PE X (.DictComp kx vx [⟨tg, iter, ifs, 0⟩] scope pos) (tXDc P w K wi g tt tk tv (own.map (·.2))) := by
  subst hP hw hK
  refine ⟨fun pins s σ H Q I h => ?_⟩
  rw [arm_eval_DictComp]
  have hfree : ∀ y ∈ scope.names, y.2 = .free → ∃ c, X.env.cells.lookup y.1 = some c := fun y hy e => by
    rcases ok.free y hy e with k | k
    · exact I.ok.has _ (.inl k)
    · exact I.ok.has _ (.inr k)
  refine wpAny_comprehension_free (use := none) rfl hs (closure_ok hfree) ok.kind (fun y hy e => by rw [ok.uniq y hy, e])
    (thn (hi.run pins s σ H _ I h) fun xv s1 hx => thn hx fun itv s2 h2 => ?_)
  obtain ⟨it, fp, tn, J, H2, e, I2, T, st2, f2, q⟩ := h2
  subst e
  refine wpAny_newObj_type (newEnv_comp ?_)
  generalize hD : s2.heap.objs.size = D
  have hDn : H2 D = none := I2.hok.fresh (Nat.le_of_eq hD)
  obtain ⟨W, ⟨m0, w0⟩, turn⟩ := q D hDn
  generalize hs3 : ({ s2 with heap := s2.heap.push { cls := .type "dict", data := .dict #[] } } : Shared) = s3
  have I3 : Inv X pins σ (upd H2 D (DO X.prog X.w D [])) s3 := by
    rw [← hs3]
    refine I2.laid (t' := s2.toks) (fun b o e => Heap.get?_push_of_some _ e) (Nat.le_of_eq hD) ?_
    rw [← hD]
    exact do_empty s2.heap I2.big
  have h3 : s3.heap = s2.heap.push { cls := .type "dict", data := .dict #[] } := by rw [← hs3]
  have sz : ∀ b ∈ fp, b < s2.heap.objs.size := fun b hb => by
    obtain ⟨o, e, _⟩ := T.obj _ _ st2 b hb
    exact Heap.lt_size e
  have f3 : ∀ b ∈ fp, FpOk X pins (upd H2 D (DO X.prog X.w D [])) b ∧ b < s3.heap.objs.size := fun b hb => by
    have hlt := sz b hb
    refine ⟨⟨?_, (f2 b hb).2⟩, by rw [h3, Heap.size_push]; exact Nat.lt_succ_of_lt hlt⟩
    rw [upd_ne (by rw [← hD]; exact Nat.ne_of_lt hlt)]
    exact (f2 b hb).1
  have st3 : tn 0 s3.heap := T.keep _ _ _ st2 fun b _ o e => by rw [h3]; exact Heap.get?_push_of_some _ e
  have I4 := block_start I3 ok hN f3
  have pg := hg s3 (upd H2 D (DO X.prog X.w D [])) s3.heap.objs.size (cellsFrom (s3.heap.objs.size + 1) scope.names (cloFrom X.env.cells scope.names [])) fp
  have pt := ht s3 (upd H2 D (DO X.prog X.w D [])) s3.heap.objs.size (cellsFrom (s3.heap.objs.size + 1) scope.names (cloFrom X.env.cells scope.names [])) fp
  have pk := hk s3 (upd H2 D (DO X.prog X.w D [])) s3.heap.objs.size (cellsFrom (s3.heap.objs.size + 1) scope.names (cloFrom X.env.cells scope.names [])) fp
  have pe := he s3 (upd H2 D (DO X.prog X.w D [])) s3.heap.objs.size (cellsFrom (s3.heap.objs.size + 1) scope.names (cloFrom X.env.cells scope.names [])) fp
  show codeAny _ _ (.compStart (.DictComp kx vx [⟨tg, iter, ifs, 0⟩] scope pos) 0 (.ref it) (.ref D) (compEnvC scope (cellsFrom (s3.heap.objs.size + 1) scope.names (cloFrom X.env.cells scope.names [])) s3.heap.objs.size X.env)) (compPost (model X.prog X.w) X.A X.xe none (EP X pins σ Q) (.ref D) s3.heap.objs.size) { s3 with heap := pushCells (s3.heap.push { cls := .type "dict", data := .dict #[] }) scope.names }
  have nfp : ∀ b ∈ fp, (upd H2 D (DO X.prog X.w D [])) b = none := fun b hb => (f3 b hb).1.1
  generalize hce : compEnvC scope (cellsFrom (s3.heap.objs.size + 1) scope.names (cloFrom X.env.cells scope.names [])) s3.heap.objs.size X.env = ce at I4 pg pt pk pe ⊢
  have cL : ce.locals = s3.heap.objs.size := by subst hce; rfl
  generalize hH3 : upd H2 D (DO X.prog X.w D []) = H3 at I3 I4 pg pt pk pe w0 nfp f3
  generalize hs4 : ({ s3 with heap := pushCells (s3.heap.push { cls := .type "dict", data := .dict #[] }) scope.names } : Shared) = s4 at I4 ⊢
  have st4 : tn 0 s4.heap := T.keep _ _ _ st3 fun b _ o e => by rw [← hs4]; exact pushCells_keeps _ _ _ _ (Heap.get?_push_of_some _ e)
  have stat : ∀ {σ' : L2.St} {H' : Hp} {s' : Shared}, Inv (X.blk s3 H3 scope ce fp) [] σ' H' s' → (∀ b ∈ fp, H' b = none) → ∀ b ∈ fp, FpOk (X.blk s3 H3 scope ce fp) [] H' b := fun {σ' H' s'} I' hn b hb =>
    ⟨hn b hb, (I'.ok.exf b hb).1, I'.ok.exfs b hb, .inl hb, fun x c e => (I'.ok.exf b hb).2 x c e, fun p hp => absurd (show p ∈ ([] : List (Addr × Obj)) ++ [] from hp) (by simp)⟩
  have loop : codeAny (model X.prog X.w) X.A (.compLoop (.DictComp kx vx [⟨tg, iter, ifs, 0⟩] scope pos) 0 (.ref it) (.ref D) ce) (compPost (model X.prog X.w) X.A X.xe none (EP X pins σ Q) (.ref D) s3.heap.objs.size) s4 := by
    refine compLoop_anyD (fun n s' => ∃ i H', Inv (X.blk s3 H3 scope ce fp) [] (wipe σ (own.map (·.2))) H' s' ∧ tn i s'.heap ∧ (∀ b ∈ fp, H' b = none) ∧ W i n H') ?_ m0 ⟨0, H3, I4, st4, nfp, w0⟩
    rintro n s5 ⟨i, H5, I5, st5, n5, w5⟩
    rcases turn i n H5 w5 with ⟨stop, qq⟩ | ⟨go, Nx, hNx, step⟩
    · have td := T.done (X.blk s3 H3 scope ce fp) rfl rfl rfl hc i [] s5 _ H5 (fun _ _ => False) I5 (stat I5 n5) st5 stop
      refine thnF td fun r s6 ⟨hr, I6⟩ => ?_
      subst hr
      have I7 : Inv X pins σ H5 s6 := I3.call' (ch := fp) I6.os I6.base I6.hok I6.bare fun b hb => ⟨(f3 b hb).1.2.2.2.1, (f3 b hb).1.2.1, (f3 b hb).1.2.2.2.2.1, (f3 b hb).1.2.2.2.2.2⟩
      have nC : H5 s3.heap.objs.size = none := by
        have z : H5 ce.locals = none := I6.free
        rw [cL] at z
        exact z
      obtain ⟨m, hn, _⟩ := I6.loc
      have hn : s6.heap.Ns ce.locals m := hn
      rw [cL] at hn
      refine ⟨m, hn, fun h'' sb => ?_⟩
      obtain ⟨f0, f1, f2, f3, f4, f5⟩ := I3.fpOk (b := s3.heap.objs.size) (H' := H5) (Nat.le_refl _) nC
      exact ⟨.ref D, H5, I7.turned (t' := s6.toks) (fun b o hb e => (sb.2 b hb).trans e) f0 f1 f3 f4 f5, rfl, qq⟩
    · have ti := T.item (X.blk s3 H3 scope ce fp) rfl rfl rfl hc i [] s5 _ H5 (fun _ _ => False) I5 (stat I5 n5) st5 go
      refine thnF ti fun r s6 ⟨u, hr, h6⟩ => ?_
      subst hr
      refine thnF h6 fun _ s7 ⟨x, H7, I7, r7, y7, st7, n7⟩ => ?_
      have I7' := I7.pinned (stat I7 n7) (T.obj _ _ st7)
      refine thnF (pg.run _ s7 _ H7 x u _ I7' r7 (step x H7 y7)) fun _ s8 ⟨σ8, H8, I8, hw8, q8⟩ => ?_
      refine thnF (pt.run _ s8 σ8 H8 _ I8 q8) fun b s9 ⟨H9, I9, q9⟩ => ?_
      have fin : ∀ {s' : Shared} {H' : Hp}, Inv (X.blk s3 H3 scope ce fp) ([] ++ pinsAt fp s7.heap) σ8 H' s' → Nx H' → ∃ m, m < n ∧ ∃ i H', Inv (X.blk s3 H3 scope ce fp) [] (wipe σ (own.map (·.2))) H' s' ∧ tn i s'.heap ∧ (∀ b ∈ fp, H' b = none) ∧ W i m H' := fun {s' H'} I' nx => by
        obtain ⟨m', hm, w'⟩ := hNx H' nx
        have pin' : ∀ b ∈ fp, ∀ o, s7.heap.get? b = some o → s'.heap.get? b = some o ∧ H' b = none := fun b hb o e =>
          let z := I'.pin (b, o) (List.mem_append_right _ (List.mem_append_right _ (mem_pinsAt hb e)))
          ⟨z.1, z.2.1⟩
        have hl : (wipe σ (own.map (·.2))).length = σ8.length := by rw [← hw8, wipe_length]
        refine ⟨m', hm, i + 1, H', (I'.unpinned (pins := [])).weak hl (fun j v e => ?_), T.keep _ _ _ st7 fun b hb o e => (pin' b hb o e).1, fun b hb => ?_, w'⟩
        · rw [← hw8] at e
          exact (wipe_some e).1
        · obtain ⟨o, e, _⟩ := T.obj _ _ st7 b hb
          exact (pin' b hb o e).2
      cases b with
      | false =>
        simp only [Bool.false_eq_true, if_false] at q9 ⊢
        exact fin I9 q9
      | true =>
        simp only [if_true] at q9 ⊢
        refine thnF (pk.run _ s9 σ8 H9 _ I9 q9) fun z s10 ⟨yk, H10, I10, r10, q10⟩ => ?_
        refine thnF (pe.run _ s10 σ8 H10 _ I10 q10) fun z2 s11 ⟨yv, H11, I11, r11, xs, k, bb, ek, hb, hD11, hkk, hz11, nx⟩ => ?_
        subst ek
        obtain rfl : z = Value.ref bb := r10
        exact d_dictSetX (X := X.blk s3 H3 scope ce fp) hu I11 hD11 hkk hb hz11 r11 fun s12 I12 => fin I12 nx
  exact codeAny_compStart_dict loop (T.self X.A 0 _ _ _ st4 loop)
end
end Rf
/-! Sx: sorted(list of data), sorted(dict with tuples of whole numbers for keys). -/
namespace Rf
open PySem PySem.Spec PyProof.Rows L2
open PySem.W (EachIs AllAlike Sortable sorted_data list_sort_data dataLe KdlSrc kdu_collect)
theorem each_of_vals : ∀ {us : List Value} {bs : List (V × PyData)}, Vals (bs.map (·.1)) us → EachIs (fun u (b : V × PyData) => RelV b.1 u) us bs
  | _, [], h => by cases h; exact .nil
  | _, b :: bs, h => by
    rw [List.map_cons] at h
    cases h with
    | cons h1 h2 => exact .cons h1 (each_of_vals h2)
theorem vals_of_each {us : List Value} {bs : List (V × PyData)} (h : EachIs (fun u (b : V × PyData) => RelV b.1 u) us bs) : Vals (bs.map (·.1)) us := by
  induction h with
  | nil => exact .nil
  | cons h1 _ ih => exact .cons h1 ih
theorem each_reads {X : Cx} {pins : List (Addr × Obj)} {σ : L2.St} {H : Hp} {s : Shared} (I : Inv X pins σ H s) : ∀ {vs : List V} {ds : List PyData} {us : List Value}, DpAll X.K H vs ds → Vals vs us → EachIs (fun u (b : V × PyData) => ∃ as, Reads s.heap u b.2 as) us (vs.zip ds)
  | [], _, _, h, r => by cases h; cases r; exact .nil
  | v :: vs, _, _, h, r => by
    cases h with
    | cons h1 h2 =>
      cases r with
      | cons r1 r2 => exact .cons (Dp.reads I _ _ _ h1 r1) (each_reads I h2 r2)
theorem dpall_len {K : PySem.W.Frag} {H : Hp} : ∀ {vs : List V} {ds : List PyData}, DpAll K H vs ds → vs.length = ds.length
  | [], _, h => by cases h; rfl
  | v :: vs, _, h => by
    cases h with
    | cons _ h2 => simp [dpall_len h2]
def rSort (K : PySem.W.Frag) : List V → Hp → VK → Prop := fun xs H Q => ∃ a vs ds, xs = [.ref a] ∧ SqL K H a vs ∧ DpAll K H vs ds ∧ AllAlike ds ∧ Sortable ds ∧ (∀ d ∈ ds, d.depth ≤ 1) ∧ vs.length ≤ sizeLine ∧ ∀ ws p, ws.Perm vs → H p = none → Q (.ref p) (upd H p (.lst ws))
theorem call_sortG {X : Cx} (hu : X.A.units + 3 < cLine) : CallR X (.builtin "sorted") (rSort X.K) := by
  intro pins s σ H xs us Q I r h
  obtain ⟨a, vs, ds, ex, hq, hd, hal, hso, hdep, hz, q⟩ := h
  subst ex
  obtain ⟨u, eu, rx⟩ := vals1 r
  subst eu
  cases rx
  obtain ⟨its, rv, p, _⟩ := I.list hq
  have hl := dpall_len hd
  have e1 : (vs.zip ds).map (·.1) = vs := List.map_fst_zip (by omega)
  have e2 : (vs.zip ds).map (·.2) = ds := List.map_snd_zip (by omega)
  have rv' : Vals ((vs.zip ds).map (·.1)) its := by rw [e1]; exact rv
  refine sorted_data (bs := vs.zip ds) (enc := (·.2)) p.isList (each_of_vals rv') (each_reads I hd rv) (by rw [e2]; exact hal) (by rw [e2]; exact hso) (by rw [List.length_zip]; omega) (fun b hb => ?_) fun out ho eo => ?_
  · have := hdep b.2 (by rw [← e2]; exact List.mem_map_of_mem hb)
    omega
  · obtain ⟨c, hc⟩ := sortedAll_at s.heap its out.toArray
    have hv := vals_of_each eo
    have pm : (((vs.zip ds).mergeSort (dataLe false (·.2))).map (·.1)).Perm vs := by
      have := (List.mergeSort_perm (vs.zip ds) (dataLe false (·.2))).map (·.1)
      rw [e1] at this; exact this
    refine ⟨.ref (s.heap.objs.size + 1), _, I.laid (a := s.heap.objs.size + 1) (o := .lst (((vs.zip ds).mergeSort (dataLe false (·.2))).map (·.1))) (t' := s.toks) (fun b o e => sortedAll_old e) (Nat.le_succ _) ⟨by rw [pm.length_eq]; exact hz, out, c, hv, hc⟩, rfl, q _ _ pm (I.hok.fresh (Nat.le_succ _))⟩

/-! ### a dict -/
theorem walks_raw {prog : Program} {w : World} {A : Around} (hh : A.handled = none) (it d : Addr) (hne : d ≠ it) {o : Obj} {es : Array DictEntry} {ep : Nat} (hdt : o.data = .dict es ep) :
    PySem.Walks prog w A it [it, d] [it] es.size (fun i v => ∃ en, es[i]? = some en ∧ v = en.key) (fun i h => h.IsKeyIter it d i es.size ep ∧ h.get? d = some o) where
  sub := fun b hb => by simp at hb; simp [hb]
  frame := fun _ _ _ st hk => ⟨st.1.at fun o e => hk it (by simp) o e, hk d (by simp) _ st.2⟩
  item := fun i s Q E hi st hQ => by
    refine next_key_item st.1 st.2 hdt rfl (en := es[i]) (by simp [hi]) fun h' hit' hs' => ?_
    exact hQ _ h' s.toks ⟨es[i], by simp [hi], rfl⟩ ⟨hit', (hs'.2 d hne).trans st.2⟩ fun b o hb e => (hs'.2 b (fun q => hb (by simp [q]))).trans e
  done := fun s Q E st hQ => next_key_end hh st.1 st.2 hdt rfl (Nat.le_refl _) fun h' eb => hQ h' s.toks fun b o hb e => eb b o (fun q => hb (by simp [q])) e
  self := fun i s Q E st h => by
    refine wpAny_pyIter_slot st.1.typeIs F.slot_dict_keyiterator_iter (wpAny_call_entry F.slot_dict_keyiterator_iter st.1.typeIs F.entry_dict_keyiterator_iter ?_ (F.args_dict_keyiterator_iter_1 _))
    show wpAny _ _ (ret (.ref it)) _ _ s
    exact wpAny_pure ⟨_, rfl, "dict_keyiterator", _, st.1.typeIs, F.slot_dict_keyiterator_next.lookup, h⟩
theorem kdl_raw {prog : Program} {w : World} {d : Addr} {o : Obj} {es : Array DictEntry} {ep : Nat} (lo : (d == sysModules) = false) (hx : o.ExactDict) (hdt : o.data = .dict es ep) : KdlSrc prog w "dict" d d es.size (fun i v => ∃ en, es[i]? = some en ∧ v = en.key) (fun h => h.get? d = some o) where
  type := fun _ hm => ⟨o, hm, hx.1⟩
  there := fun _ hm => ⟨Heap.lt_size hm, Heap.lt_size hm⟩
  keep := fun _ _ hm hk => hk d (.inl rfl) _ hm
  notList := by decide
  notTuple := by decide
  hint := fun _ _ _ _ hm hq => PySem.W.kdl_hint_dict ⟨o, hm, hx.1⟩ hq
  iter := fun A s hh hm => ⟨_, _, (fun E Q hq => iter_keys lo hm hx hdt hq), walks_raw hh _ d (Nat.ne_of_lt (Heap.lt_size hm)) hdt, ⟨⟨_, Heap.get?_push_size _ rfl, rfl, rfl⟩, Heap.get?_push_of_some _ hm⟩⟩
def rSortD (P : Program) (w : World) (K : PySem.W.Frag) : List V → Hp → VK → Prop := fun xs H Q => ∃ a xs', xs = [.ref a] ∧ RdX P w H a xs' ∧ KeysOk K H xs' ∧ (∀ x ∈ xs', x.1 ≠ []) ∧ ∀ ks p, ks.Perm (xs'.map fun x => V.ref x.2.1) → H p = none → Q (.ref p) (upd H p (.lst ks))
theorem dp_ints {K : PySem.W.Frag} {H : Hp} : ∀ ns : List Int, DpAll K H (ns.map V.int) (ns.map PyData.int)
  | [] => .nil
  | n :: ns => .cons (.int n) (dp_ints ns)
theorem depth_ints : ∀ ns : List Int, PyData.depthAll (ns.map PyData.int) = 0
  | [] => rfl
  | n :: ns => by rw [List.map_cons, PyData.depthAll, depth_ints ns]; rfl
theorem alike_ints : ∀ ns ms : List Int, PySem.W.alikeAll (ns.map PyData.int) (ms.map PyData.int) = true
  | [], _ => by simp [PySem.W.alikeAll]
  | _ :: _, [] => by simp [PySem.W.alikeAll]
  | n :: ns, m :: ms => by simp [PySem.W.alikeAll, PySem.W.alike, alike_ints ns ms]
theorem vals_at : ∀ {xs : List V} {us : List Value}, xs.length = us.length → (∀ (j : Nat) (v : V), xs[j]? = some v → ∃ u, us[j]? = some u ∧ RelV v u) → Vals xs us
  | [], [], _, _ => .nil
  | x :: xs, u :: us, hl, h => by
    obtain ⟨u', e, r⟩ := h 0 x rfl
    cases (Option.some.inj e)
    exact .cons r (vals_at (by simpa using hl) fun j v hj => by simpa using h (j + 1) v (by simpa using hj))
  | [], _ :: _, hl, _ => by simp at hl
  | _ :: _, [], hl, _ => by simp at hl
theorem dp_keys {K : PySem.W.Frag} {H : Hp} : ∀ {xs : DV}, KeysOk K H xs → DpAll K H (xs.map fun x => V.ref x.2.1) (xs.map fun x => PyData.tuple (x.1.map PyData.int))
  | [], _ => .nil
  | x :: xs, h => .cons (.tup (h x List.mem_cons_self) (dp_ints x.1)) (dp_keys fun y hy => h y (List.mem_cons_of_mem _ hy))
theorem call_sortX {X : Cx} (hc : X.calm = true) (hu : X.A.units + 4 < cLine) : CallR X (.builtin "sorted") (rSortD X.prog X.w X.K) := by
  intro pins s σ H xs us Q I r q
  obtain ⟨a, xs', ex, hd, hk, hne, q⟩ := q
  subst ex
  obtain ⟨u, eu, rx⟩ := vals1 r
  subst eu
  cases rx
  obtain ⟨z, lo, vs, rel, nd, o, es, ep, h1, h2, h3, h4⟩ := dphi_of I hd
  have l1 : es.size = vs.length := size_of_entries h4
  have l2 : xs'.length = vs.length := Paired.length rel
  refine Calls.call_function_entry PyProof.Rows.kind_sorted PyProof.Rows.plain_sorted PyProof.Rows.entry_sorted (PyProof.Rows.args_sorted1 _) ?_
  unfold Builtin.«sorted»
  refine wpAny_bind (m := checkCount "sorted" 1 1 _) (wpAny_pure ?_)
  refine wpAny_bind (kdu_collect (A := X.A.in1) (kdl_raw lo h2 h3) (I.ok.hd hc) h1 (by rw [l1, ← l2]; exact z) fun h' tk acc hkk hacc => ?_)
  have hal : acc.toList.length = xs'.length := by rw [Array.length_toList, hacc.1, l1, l2]
  have hv : Vals (xs'.map fun x => V.ref x.2.1) acc.toList := by
    refine vals_at (by rw [List.length_map, hal]) fun j v hj => ?_
    rw [List.getElem?_map] at hj
    cases hx : xs'[j]? with
    | none => rw [hx] at hj; cases hj
    | some y =>
      rw [hx] at hj
      cases (Option.some.inj hj)
      obtain ⟨y2, hy2, e1, e2, e3⟩ := paired_get rel hx
      have hj' : j < acc.toList.length := by rw [hal]; exact (List.getElem?_eq_some_iff.mp hx).1
      refine ⟨acc.toList[j], List.getElem?_eq_getElem hj', ?_⟩
      obtain ⟨en, g1, g2⟩ := hacc.2 j acc.toList[j] (by rw [← Array.getElem?_toList]; exact List.getElem?_eq_getElem hj')
      have g := entry_at h4 j
      rw [hy2] at g
      rw [g1] at g
      cases (Option.some.inj g)
      rw [g2]
      show Value.ref y2.2.1 = Value.ref y.2.1
      rw [e2]
  have I1 : Inv X pins σ H { s with heap := h', toks := tk } := I.kept hkk
  have hdp := dp_keys hk
  have hl := dpall_len hdp
  have e1 : ((xs'.map fun x => V.ref x.2.1).zip (xs'.map fun x => PyData.tuple (x.1.map PyData.int))).map (·.1) = xs'.map fun x => V.ref x.2.1 := List.map_fst_zip (by omega)
  have e2 : ((xs'.map fun x => V.ref x.2.1).zip (xs'.map fun x => PyData.tuple (x.1.map PyData.int))).map (·.2) = xs'.map fun x => PyData.tuple (x.1.map PyData.int) := List.map_snd_zip (by omega)
  generalize hbs : (xs'.map fun x => V.ref x.2.1).zip (xs'.map fun x => PyData.tuple (x.1.map PyData.int)) = bs at e1 e2
  have hbl : bs.length = xs'.length := by rw [← hbs]; simp
  refine wpAny_bind (wpAny_newList ?_ (by rw [hal]; exact z))
  have hoL : (h'.push (seqObj "list" acc.toList.toArray 0)).get? h'.objs.size = some (seqObj "list" acc.toList.toArray 0) := Heap.get?_push_size _ rfl
  show wpAny _ _ _ _ _ { s with heap := h'.push (seqObj "list" acc.toList.toArray 0), toks := tk }
  have I2 : Inv X pins σ (upd H h'.objs.size (.lst (xs'.map fun x => V.ref x.2.1))) { s with heap := h'.push (seqObj "list" acc.toList.toArray 0), toks := tk } :=
    I1.laid (t' := tk) (fun b u e => Heap.get?_push_of_some _ e) (Nat.le_refl _) ⟨by rw [List.length_map]; exact z, _, 0, hv, hoL⟩
  have fresh : H h'.objs.size = none := I1.hok.fresh (Nat.le_refl _)
  have hk2 : KeysOk X.K (upd H h'.objs.size (.lst (xs'.map fun x => V.ref x.2.1))) xs' := fun x hx => by
    rcases hk x hx with (q | ⟨o, q⟩) | q
    · exact .inl (.inl (by rw [upd_ne (fun z => by rw [z, fresh] at q; cases q)]; exact q))
    · exact .inl (.inr ⟨o, by rw [upd_ne (fun z => by rw [z, fresh] at q; cases q)]; exact q⟩)
    · exact .inr q
  have er := each_reads I2 (dp_keys hk2) hv
  rw [hbs] at er
  have er2 : EachIs (fun u (b : V × PyData) => ∃ as, Reads (h'.push (seqObj "list" acc.toList.toArray 0)) u b.2 as ∧ h'.objs.size ∉ as) acc.toList bs := by
    refine (PySem.W.each_mem er).mono fun u b hh => ?_
    obtain ⟨⟨as, hr⟩, hb⟩ := hh
    have hb2 : b.2 ∈ xs'.map fun x => PyData.tuple (x.1.map PyData.int) := by rw [← e2]; exact List.mem_map_of_mem hb
    obtain ⟨x, _, ex⟩ := List.mem_map.mp hb2
    refine ⟨as, hr, ?_⟩
    rw [← ex] at hr
    cases hr with
    | tuple _ _ _ h4 =>
      have : ∀ {ns : List Int} {vs : List Value} {as : List Addr}, ReadsAll (h'.push (seqObj "list" acc.toList.toArray 0)) vs (ns.map PyData.int) as → as = [] := by
        intro ns
        induction ns with
        | nil => intro vs as h; cases h; rfl
        | cons n ns ih =>
          intro vs as h
          cases h with
          | cons h1 h2 => cases h1; rw [ih h2]; rfl
      rw [this h4]; simp
  refine wpAny_bind (wpAny_holding (list_sort_data (s := { s with heap := h'.push (seqObj "list" acc.toList.toArray 0), toks := tk }) (enc := (·.2)) hoL (each_of_vals (by rw [e1]; exact hv)) er2 (by
      rw [e2]
      intro d hd d' hd'
      obtain ⟨x, _, rfl⟩ := List.mem_map.mp hd
      obtain ⟨y, _, rfl⟩ := List.mem_map.mp hd'
      simp [PySem.W.alike, alike_ints]) (by
      rw [e2]
      refine .inl fun d hd => ?_
      obtain ⟨x, hx, rfl⟩ := List.mem_map.mp hd
      have := hne x hx
      cases hx1 : x.1 with
      | nil => exact (this hx1).elim
      | cons a t => exact ⟨_, _, rfl⟩) (by rw [hbl]; exact z) (fun b hb => ?_) fun out ho eo => ?_))
  · have hb2 : b.2 ∈ xs'.map fun x => PyData.tuple (x.1.map PyData.int) := by rw [← e2]; exact List.mem_map_of_mem hb
    obtain ⟨x, _, ex⟩ := List.mem_map.mp hb2
    rw [← ex, PyData.depth, depth_ints]
    show X.A.in1.units + 1 + 1 < cLine
    have : X.A.in1.units ≤ X.A.units + 1 := by first | exact Nat.le_refl _ | (show _ ≤ _; simp [Around.in1])
    omega
  · obtain ⟨e', he'⟩ := PyProof.Rows.sortedHeap_at (vs := acc.toList) (out := out.toArray) hoL
    have hv2 := vals_of_each eo
    have pm : ((bs.mergeSort (dataLe false (·.2))).map (·.1)).Perm (xs'.map fun x => V.ref x.2.1) := by
      have := (List.mergeSort_perm bs (dataLe false (·.2))).map (·.1)
      rw [e1] at this; exact this
    refine wpAny_pure ⟨_, rfl, .ref h'.objs.size, upd H h'.objs.size (.lst ((bs.mergeSort (dataLe false (·.2))).map (·.1))), I1.laid (t' := tk) (fun b u e => ?_) (Nat.le_refl _)
      ⟨by rw [pm.length_eq, List.length_map]; exact z, out, e', hv2, he'⟩, rfl, q _ _ pm (I1.hok.fresh (Nat.le_refl _))⟩
    have hb : b < h'.objs.size := Heap.lt_size e
    rw [PyProof.Rows.sortedHeap_old (Nat.ne_of_lt hb) (by rw [size_push']; exact Nat.lt_succ_of_lt hb)]
    exact Heap.get?_push_of_some _ e
end Rf
/-! Cal8: dicts with tuples of whole numbers for keys; sorted. -/
namespace Rf
open PySem PySem.Spec L2

abbrev DM (α : Type) := List (List Int × α)
def valM {α : Type} (m : DM α) (k : List Int) : Option α := (m.find? fun x => decide (x.1 = k)).map (·.2)
def putM {α : Type} (m : DM α) (k : List Int) (v : α) : DM α := if (valM m k).isSome then m.map (fun x => if x.1 = k then (x.1, v) else x) else m ++ [(k, v)]
def DPr {α : Type} (r : RP α) (A : Hp) (x : List Int × Addr × V) (y : List Int × α) : Prop := x.1 = y.1 ∧ r A x.2.2 y.2
theorem valM_nil {α : Type} {k : List Int} : valM ([] : DM α) k = none := rfl
theorem valM_cons {α : Type} {x : List Int × α} {m : DM α} {k : List Int} : valM (x :: m) k = if x.1 = k then some x.2 else valM m k := by
  unfold valM
  rw [List.find?_cons]
  by_cases h : x.1 = k <;> simp [h]
section
variable {α : Type} {r : RP α} {A : Hp}
theorem dpr_val {xs : DV} {m : DM α} (h : Paired (DPr r A) xs m) (k : List Int) : (valD xs k = none ∧ valM m k = none) ∨ ∃ v y, valD xs k = some v ∧ valM m k = some y ∧ r A v y := by
  induction h with
  | nil => exact .inl ⟨rfl, rfl⟩
  | @cons p q ps qs h t ih =>
    obtain ⟨h1, h2⟩ := h
    by_cases e : p.1 = k
    · rw [valD_pos e, valM_cons, if_pos (h1.symm.trans e)]
      exact .inr ⟨_, _, rfl, rfl, h2⟩
    · rw [valD_neg e, valM_cons, if_neg (fun z => e (h1.trans z))]
      exact ih
theorem dpr_put {xs : DV} {m : DM α} (h : Paired (DPr r A) xs m) (k : List Int) (b : Addr) {v : V} {y : α} (hv : r A v y) : Paired (DPr r A) (putD xs k b v) (putM m k y) := by
  have e : (valD xs k).isSome = (valM m k).isSome := by
    rcases dpr_val h k with ⟨h1, h2⟩ | ⟨_, _, h1, h2, _⟩ <;> rw [h1, h2] <;> rfl
  unfold putD putM
  rw [e]
  by_cases q : (valM m k).isSome = true
  · rw [if_pos q, if_pos q]
    clear e q
    induction h with
    | nil => exact .nil
    | @cons p q ps qs h t ih =>
      rw [List.map_cons, List.map_cons]
      refine .cons ?_ ih
      obtain ⟨h1, h2⟩ := h
      by_cases e : p.1 = k
      · rw [if_pos e, if_pos (h1.symm.trans e)]; exact ⟨h1, hv⟩
      · rw [if_neg e, if_neg (fun z => e (h1.trans z))]; exact ⟨h1, h2⟩
  · rw [if_neg q, if_neg q]
    exact paired_snoc h ⟨rfl, hv⟩
end
theorem rdx_le {P : Program} {w : World} {A B : Hp} {a : Addr} {xs : DV} (l : Le A B) (h : RdX P w A a xs) : RdX P w B a xs := by
  rcases h with h | ⟨o, h⟩
  · rcases l a _ h with q | ⟨od, φ, _, q⟩
    · exact .inl q
    · exact .inr ⟨od, q⟩
  · exact .inr ⟨o, l.frz h⟩
theorem keys_le {K : PySem.W.Frag} {A B : Hp} {xs : DV} (l : Le A B) (h : KeysOk K A xs) : KeysOk K B xs := fun x hx => l.sqt (h x hx)
theorem dpr_le {α : Type} {r : RP α} [m : Mono r] {A B : Hp} {xs : DV} {d : DM α} (l : Le A B) (h : Paired (DPr r A) xs d) : Paired (DPr r B) xs d := Paired.mapP h fun _ _ z => ⟨z.1, m.le l z.2⟩
/-- a dict in the base -/
def qD (P : Program) (w : World) (K : PySem.W.Frag) {α : Type} (r : RP α) : RP (DM α) := fun A v m => ∃ a xs, v = .ref a ∧ RdX P w A a xs ∧ KeysOk K A xs ∧ Paired (DPr r A) xs m
instance (P : Program) (w : World) (K : PySem.W.Frag) {α : Type} (r : RP α) [m : Mono r] : Mono (qD P w K r) := ⟨fun l ⟨a, xs, h1, h2, h3, h4⟩ => ⟨a, xs, h1, rdx_le l h2, keys_le l h3, dpr_le l h4⟩⟩
theorem qD_ne {P : Program} {w : World} {K : PySem.W.Frag} {α : Type} {r : RP α} {A : Hp} {v : V} {m : DM α} (h : qD P w K r A v m) : v ≠ .non := by
  obtain ⟨a, xs, rfl, _⟩ := h
  intro z; cases z
/-- a dict of one's own -/
def ownD (P : Program) (w : World) (K : PySem.W.Frag) {α : Type} (r : RP α) [m : Mono r] (d : DM α) : Ent where
  p := fun A H v => ∃ (a : Addr) (xs : DV), v = .ref a ∧ A a = none ∧ H a = some (DO P w a xs) ∧ KeysOk K A xs ∧ Paired (DPr r A) xs d
  fp := fun _ v a => v = .ref a
  ow := fun h e => by
    obtain ⟨l, xs, rfl, h1, h2, _⟩ := h
    cases e
    exact ⟨h1, _, h2⟩
  st := fun h l k => by
    obtain ⟨a, xs, rfl, h1, h2, h3, h4⟩ := h
    obtain ⟨q1, q2⟩ := k a _ rfl h2
    exact ⟨⟨a, xs, rfl, q1, q2, keys_le l h3, dpr_le l h4⟩, fun _ z => z⟩
section
variable {K : PySem.W.Frag} {P : Program} {w : World} {β : Option Addr} {Γ : EnvA} {α γ δ : Type} {r : RP α} {r1 : RP γ} {r2 : RP δ} {td te tk ta tb : TE} {pb : Bool → Prop}
/-- a dict to be read: in the base, or one's own -/
def EvD (P : Program) (w : World) (K : PySem.W.Frag) (β : Option Addr) (td : TE) (Γ : EnvA) {α : Type} (r : RP α) (p : DM α → Prop) : Prop :=
  ∀ (H0 : Hp) (σ : L2.St) (A H : Hp), Rel β H0 Γ σ A H → ∀ Q : VK, (∀ a xs m B H', Grow β A H B H' → p m → (∀ C H'', Grow β B H' C H'' → RdX P w H'' a xs) → KeysOk K B xs → Paired (DPr r B) xs m → Q (.ref a) H') → td σ H Q
theorem ed_sh {p : DM α → Prop} (h : Ev β td Γ (qD P w K r) p) : EvD P w K β td Γ r p := fun H0 σ A H R Q q =>
  h H0 σ A H R _ fun v m B H' g pm ⟨a, xs, e, h1, h2, h3⟩ => by
    subst e
    exact q a xs m B H' g pm (fun C H'' g2 => rdx_le g2.sub.le (rdx_le g2.le h1)) h2 h3
theorem ed_own {i : Nat} [Mono r] {m : DM α} (h : Γ[i]? = some (some (ownD P w K r m))) : EvD P w K β (tVar i) Γ r (· = m) := fun H0 σ A H R Q q => by
  obtain ⟨v, hv, ⟨a, xs, rfl, h1, h2, h3, h4⟩, h5⟩ := R.ent i _ h
  refine ⟨_, hv, q a xs m A H (Grow.refl R.sub) rfl (fun C H'' g2 => .inl (g2.own a _ (fun z => ?_) h1 h2).2) h3 h4⟩
  obtain ⟨_, _, o', q⟩ := R.bx a z
  rw [h5 a rfl] at q; cases q
theorem ed_var {i : Nat} [Mono r] {m : DM α} (h : Γ[i]? = some (some (sh (qD P w K r) m))) : EvD P w K β (tVar i) Γ r (· = m) := ed_sh (ev_var h)
theorem EvD.imp {p p' : DM α → Prop} (h : EvD P w K β td Γ r p) (k : ∀ m, p m → p' m) : EvD P w K β td Γ r p' := fun H0 σ A H R Q q => h H0 σ A H R Q fun a xs m B H' g pm => q a xs m B H' g (k m pm)
/-- d[k] -/
theorem ev_dget [m : Mono r] {p : DM α → Prop} {pk : List Int → Prop} {p3 : α → Prop} (hd : EvD P w K β td Γ r p) (hk : Ev β tk Γ (qTI K) pk) (k : ∀ m k, p m → pk k → ∃ y, valM m k = some y ∧ p3 y) : Ev β (tXGet P w K td tk) Γ r p3 := fun H0 σ A H R Q q =>
  hd H0 σ A H R _ fun a xs d B H1 g pm st ko pr => hk H0 σ B H1 (R.grow g) _ fun u ks C H2 g2 pks ⟨b, eb, hb⟩ => by
    obtain ⟨y, hy, py⟩ := k d ks pm pks
    rcases dpr_val (dpr_le g2.le pr) ks with ⟨_, h2⟩ | ⟨v, y', h1, h2, h3⟩
    · rw [hy] at h2; cases h2
    · rw [hy] at h2; cases h2
      exact ⟨a, xs, ks, b, v, rfl, st _ _ g2, keys_le (g2.le.trans g2.sub.le) ko, eb, sqt_up g2.sub hb, h1, q v y C H2 (g.trans g2) py h3⟩
/-- k in d -/
theorem ev_din {p : DM α → Prop} [m : Mono r] {pk : List Int → Prop} (hk : Ev β tk Γ (qTI K) pk) (hd : EvD P w K β td Γ r p) (k : ∀ m k, p m → pk k → pb (valM m k).isSome) : Ev β (tXIn P w K tk td) Γ qB pb := fun H0 σ A H R Q q =>
  hk H0 σ A H R _ fun u ks B H1 g pks ⟨b, eb, hb⟩ => hd H0 σ B H1 (R.grow g) _ fun a xs d C H2 g2 pm st ko pr => by
    have e : (valD xs ks).isSome = (valM d ks).isSome := by
      rcases dpr_val pr ks with ⟨h1, h2⟩ | ⟨_, _, h1, h2, _⟩ <;> rw [h1, h2] <;> rfl
    refine ⟨a, xs, ks, b, rfl, st _ _ (Grow.refl g2.sub), keys_le g2.sub.le ko, eb, sqt_up (g2.sub) (g2.le.sqt hb), ?_⟩
    rw [e]
    exact q _ _ C H2 (g.trans g2) (k d ks pm pks) rfl
/-- d.get(k) -/
theorem ev_dget1 [m : Mono r] (ne : ∀ {A v x}, r A v x → v ≠ .non) {p : DM α → Prop} {pk : List Int → Prop} {p3 : Option α → Prop} (hd : EvD P w K β td Γ r p) (hk : Ev β tk Γ (qTI K) pk) (k : ∀ m k, p m → pk k → p3 (valM m k)) : Ev β (tXGet1 P w K td tk) Γ (qO r) p3 := fun H0 σ A H R Q q =>
  hd H0 σ A H R _ fun a xs d B H1 g pm st ko pr => ⟨a, xs, rfl, st _ _ (Grow.refl g.sub), hk H0 σ B H1 (R.grow g) _ fun u ks C H2 g2 pks ⟨b, eb, hb⟩ => by
    have py := k d ks pm pks
    refine ⟨xs, ks, b, st _ _ g2, keys_le (g2.le.trans g2.sub.le) ko, eb, sqt_up g2.sub hb, ?_⟩
    rcases dpr_val (dpr_le g2.le pr) ks with ⟨h1, h2⟩ | ⟨v, y', h1, h2, h3⟩
    · rw [h2] at py
      rw [h1]
      exact q .non none C H2 (g.trans g2) py rfl
    · rw [h2] at py
      rw [h1]
      exact q v (some y') C H2 (g.trans g2) py ⟨ne h3, h3⟩⟩
/-- d.get(k, x) -/
theorem ev_dget2 [m : Mono r] {p : DM α → Prop} {pk : List Int → Prop} {px p3 : α → Prop} (hd : EvD P w K β td Γ r p) (hk : Ev β tk Γ (qTI K) pk) (hx : Ev β te Γ r px) (k : ∀ m k x, p m → pk k → px x → p3 ((valM m k).getD x)) : Ev β (tXGet2 P w K td tk te) Γ r p3 := fun H0 σ A H R Q q =>
  hd H0 σ A H R _ fun a xs d B H1 g pm st ko pr => ⟨a, xs, rfl, st _ _ (Grow.refl g.sub), hk H0 σ B H1 (R.grow g) _ fun u ks C H2 g2 pks ⟨b, eb, hb⟩ => hx H0 σ C H2 ((R.grow g).grow g2) _ fun z x E H3 g3 pxx rx => by
    have py := k d ks x pm pks pxx
    have G := g2.trans g3
    refine ⟨xs, ks, b, st _ _ G, keys_le (G.le.trans g3.sub.le) ko, eb, sqt_up g3.sub (g3.le.sqt hb), ?_⟩
    rcases dpr_val (dpr_le G.le pr) ks with ⟨h1, h2⟩ | ⟨v, y', h1, h2, h3⟩
    · rw [h2] at py
      rw [h1]
      exact q z x E H3 (g.trans G) py rx
    · rw [h2] at py
      rw [h1]
      exact q v y' E H3 (g.trans G) py h3⟩

/-! ### new dicts -/
def EnD (P : Program) (w : World) (K : PySem.W.Frag) (β : Option Addr) (td : TE) (Γ : EnvA) {α : Type} (r : RP α) (p : DM α → Prop) : Prop :=
  ∀ (H0 : Hp) (σ : L2.St) (A H : Hp), Rel β H0 Γ σ A H → ∀ Q : VK, (∀ a xs m B H', Grow β A H B H' → H a = none → B a = none → H' a = some (DO P w a xs) → KeysOk K B xs → p m → Paired (DPr r B) xs m → Q (.ref a) H') → td σ H Q
theorem EnD.ev [m : Mono r] {p : DM α → Prop} (h : EnD P w K β td Γ r p) : Ev β td Γ (qD P w K r) p := fun H0 σ A H R Q k =>
  h H0 σ A H R _ fun a xs d B H' g h0 hB hl ko px pr => k (.ref a) d (upd B a (DO P w a xs)) H' (g.share (fun b hb => R.boxOk hb) h0 hl hB) px
    ⟨a, xs, rfl, .inl upd_same, keys_le (le_new hB) ko, dpr_le (le_new hB) pr⟩
theorem EnD.imp {p p' : DM α → Prop} (h : EnD P w K β td Γ r p) (k : ∀ m, p m → p' m) : EnD P w K β td Γ r p' := fun H0 σ A H R Q q => h H0 σ A H R Q fun a xs m B H' g h1 h2 h3 h4 pm => q a xs m B H' g h1 h2 h3 h4 (k m pm)
theorem end_nil : EnD P w K β (tXNew P w) Γ r (· = []) := fun H0 σ A H R Q k => fun p hp => k p [] [] A _ (Grow.newOwn R.sub hp) hp (R.sub.no hp) upd_same (fun _ h => nomatch h) rfl .nil
theorem end_one [m : Mono r] {pk : List Int → Prop} {pv : α → Prop} (hk : Ev β tk Γ (qTI K) pk) (hv : Ev β te Γ r pv) : EnD P w K β (tXDisp1 P w K tk te) Γ r (fun d => ∃ k v, pk k ∧ pv v ∧ d = [(k, v)]) := fun H0 σ A H R Q q => fun p hp => by
  have g0 : Grow β A H A (upd H p (DO P w p [])) := Grow.newOwn R.sub hp
  have nb : β ≠ some p := fun z => by
    obtain ⟨_, _, _, _, e1, _⟩ := R.boxOk z
    rw [hp] at e1; cases e1
  refine hk H0 σ A _ (R.grow g0) _ fun u ks B H1 g1 pks ⟨b, eb, hb⟩ => hv H0 σ B H1 ((R.grow g0).grow g1) _ fun v x C H2 g2 px rx => ?_
  have o1 := (g1.trans g2).own p _ nb (R.sub.no hp) upd_same
  have G := g0.trans (g1.trans g2)
  refine ⟨ks, b, o1.2, eb, sqt_up g2.sub (g2.le.sqt hb), q p [(ks, b, v)] [(ks, x)] C _ ?_ hp o1.1 upd_same (fun y hy => ?_) ⟨ks, x, pks, px, rfl⟩ (.cons ⟨rfl, rx⟩ .nil)⟩
  · refine ⟨G.le, fun a o z => ?_, fun a o n z1 z2 => ?_, fun b' n z1 z2 => ?_⟩
    · rw [upd_ne (fun y => by rw [y, o1.1] at z; cases z)]; exact G.sub a o z
    · rw [upd_ne (fun y => by rw [y, hp] at z2; cases z2)]; exact G.own a o n z1 z2
    · obtain ⟨y1, r', xs', n', y2, y3⟩ := G.box b' n z1 z2
      exact ⟨y1, r', xs', n', by rw [upd_ne (fun y => nb (by rw [n, y]))]; exact y2, y3⟩
  · cases List.mem_singleton.mp hy
    exact g2.le.sqt hb
theorem end_if {t : TT} {p : DM α → Prop} (h : EvT β t Γ pb) (h1 : pb true → EnD P w K β ta Γ r p) (h2 : pb false → EnD P w K β tb Γ r p) : EnD P w K β (tIf t ta tb) Γ r p := fun H0 σ A H R Q q => h H0 σ A H R _ fun b B H' g px => by
  cases b with
  | true => exact h1 px H0 σ B H' (R.grow g) Q fun a xs m C H2 g2 z => q a xs m C H2 (g.trans g2) (R.back g z)
  | false => exact h2 px H0 σ B H' (R.grow g) Q fun a xs m C H2 g2 z => q a xs m C H2 (g.trans g2) (R.back g z)
theorem en_if {t : TT} {p : List α → Prop} (h : EvT β t Γ pb) (h1 : pb true → EvN β ta Γ r p) (h2 : pb false → EvN β tb Γ r p) : EvN β (tIf t ta tb) Γ r p := fun H0 σ A H R Q q => h H0 σ A H R _ fun b B H' g px => by
  cases b with
  | true => exact h1 px H0 σ B H' (R.grow g) Q fun a xs m C H2 g2 z => q a xs m C H2 (g.trans g2) (R.back g z)
  | false => exact h2 px H0 σ B H' (R.grow g) Q fun a xs m C H2 g2 z => q a xs m C H2 (g.trans g2) (R.back g z)

/-! ### walks -/
/-- a dict of the base is locked -/
theorem Grow.lock {A H : Hp} {d : Addr} {xs : DV} {o : Obj} (s : Sub A H) (h : A d = some (DO P w d xs)) : Grow β A H (upd A d (.frz o (DO P w d xs))) (upd H d (.frz o (DO P w d xs))) := by
  refine ⟨fun a u e => ?_, s.both, fun a u _ h1 h2 => ?_, fun b _ h1 h2 => ?_⟩
  · by_cases q : a = d
    · subst q
      rw [h] at e; cases e
      exact .inr ⟨o, _, rfl, upd_same⟩
    · exact .inl (by rw [upd_ne q]; exact e)
  · have n : a ≠ d := fun z => by rw [z, h] at h1; cases h1
    rw [upd_ne n, upd_ne n]; exact ⟨h1, h2⟩
  · obtain ⟨ro, ns, n, e1, e2, e3⟩ := h2
    have n1 : b ≠ d := fun z => by rw [z, h] at h1; cases h1
    have n2 : ro ≠ d := fun z => by rw [z, h] at e2; cases e2
    rw [upd_ne n1]
    exact ⟨h1, ro, ns, n, by rw [upd_ne n1]; exact e1, by rw [upd_ne n2]; exact e2, e3⟩
theorem ei_items [m : Mono r] {p : DM α → Prop} {g : TG} {js : List Nat} {e : List Int × α → List Ent} (h : Ev β td Γ (qD P w K r) p) (tg : Tg g js (qP (qTI K) r) e) : EvI β (iItX P w td) g Γ js e p := fun H0 σ A H R W k =>
  h H0 σ A H R _ fun v d B H1 gr pd ⟨a, xs, ev, h1, h2, h3⟩ => by
    have len0 : xs.length = d.length := Paired.length h3
    have key : ∀ (B' H' : Hp) (o : Obj), Grow β A H B' H' → Le B B' → B' a = some (.frz o (DO P w a xs)) → W (ItX P w a o xs) H' := fun B' H' o g' l' hf => by
      refine k _ d B' H' g' pd ⟨fun i C H2 hi lc sc => ⟨sc _ _ (lc.frz hf), by rw [List.length_map] at hi; omega⟩, fun C H2 lc sc => ⟨sc _ _ (lc.frz hf), by rw [List.length_map]; omega⟩, fun i es C H2 z H3 hi lc sc yd => ?_⟩
      obtain ⟨N, ks, q, u, hx, rfl, hN, rfl⟩ := yd
      have hi' : i < d.length := by
        have := (List.getElem?_eq_some_iff.mp hi).1
        rwa [List.length_map] at this
      rw [List.getElem?_map, List.getElem?_eq_getElem hi'] at hi
      cases (Option.some.inj hi)
      obtain ⟨u', q3, q4, q5⟩ := paired_at h3 (List.getElem?_eq_getElem hi')
      rw [hx] at q3; cases q3
      have lT : Le C (upd C N (.tup [.ref q, u])) := le_new (sc.no hN)
      have hk : SqT K B q (ks.map V.int) := h2 (ks, q, u) (List.mem_of_getElem? hx)
      refine ⟨upd C N (.tup [.ref q, u]), Grow.new sc hN, fun σ Q q' => tg _ _ sc.both _ _ ⟨N, _, _, rfl, upd_same, ⟨q, rfl, ?_⟩, ?_⟩ σ Q q'⟩
      · show SqT K _ q (d[i].1.map V.int)
        rw [← q4]
        exact ((l'.trans lc).trans lT).sqt hk
      · exact m.le ((l'.trans lc).trans lT) q5
    refine ⟨a, xs, ev, ?_⟩
    rcases h1 with h1 | ⟨o, h1⟩
    · exact .inr ⟨gr.sub _ _ h1, fun o => key _ _ o (gr.trans (Grow.lock gr.sub h1)) (Grow.lock (β := β) gr.sub h1).le upd_same⟩
    · exact .inl ⟨o, gr.sub _ _ h1, key _ _ o gr Le.refl h1⟩
theorem ei_keys {p : DM α → Prop} {g : TG} {js : List Nat} {e : List Int → List Ent} (h : Ev β td Γ (qD P w K r) p) (tg : Tg g js (qTI K) e) : EvI β (iKyX P w td) g Γ js e fun l => ∃ d, p d ∧ l = d.map (·.1) := fun H0 σ A H R W k =>
  h H0 σ A H R _ fun v d B H1 gr pd ⟨a, xs, ev, h1, h2, h3⟩ => by
    have len0 : xs.length = d.length := Paired.length h3
    have key : ∀ (B' H' : Hp) (o : Obj), Grow β A H B' H' → Le B B' → B' a = some (.frz o (DO P w a xs)) → W (ItXk P w a o xs) H' := fun B' H' o g' l' hf => by
      refine k _ _ B' H' g' ⟨d, pd, rfl⟩ ⟨fun i C H2 hi lc sc => ⟨sc _ _ (lc.frz hf), by rw [List.length_map, List.length_map] at hi; omega⟩, fun C H2 lc sc => ⟨sc _ _ (lc.frz hf), by rw [List.length_map, List.length_map]; omega⟩, fun i es C H2 z H3 hi lc sc yd => ?_⟩
      obtain ⟨rfl, ks, q, u, hx, rfl⟩ := yd
      have hi' : i < d.length := by
        have := (List.getElem?_eq_some_iff.mp hi).1
        rwa [List.length_map, List.length_map] at this
      rw [List.getElem?_map, List.getElem?_map, List.getElem?_eq_getElem hi'] at hi
      cases (Option.some.inj hi)
      obtain ⟨u', q3, q4, q5⟩ := paired_at h3 (List.getElem?_eq_getElem hi')
      rw [hx] at q3; cases q3
      have hk : SqT K B q (ks.map V.int) := h2 (ks, q, u) (List.mem_of_getElem? hx)
      refine ⟨C, Grow.refl sc, fun σ Q q' => tg _ _ sc _ _ ⟨q, rfl, ?_⟩ σ Q q'⟩
      show SqT K _ q (d[i].1.map V.int)
      rw [← q4]
      exact (l'.trans lc).sqt hk
    refine ⟨a, xs, ev, ?_⟩
    rcases h1 with h1 | ⟨o, h1⟩
    · exact .inr ⟨gr.sub _ _ h1, fun o => key _ _ o (gr.trans (Grow.lock gr.sub h1)) (Grow.lock (β := β) gr.sub h1).le upd_same⟩
    · exact .inl ⟨o, gr.sub _ _ h1, key _ _ o gr Le.refl h1⟩

/-! ### statements -/
theorem tr_asgND {F : Fr} {D : Ends} {u : TS} {i : Nat} [m : Mono r] {q : DM α → Prop} (h : EnD P w K F.bx te Γ r q) (k : ∀ d, q d → Tr F (Γ.set i (some (ownD P w K r d))) u D) : Tr F Γ (tSeq (tAsg te (gName i)) u) D := fun σ H ⟨A, le, g, R⟩ =>
  h F.H0 σ A H R _ fun l xs d B H' g2 h0 hB hl ko px pr => k d px _ _ ⟨B, le.trans g2.le, g.trans g2, R.setNew g2 i (e := ownD P w K r d) h0 ⟨l, xs, rfl, hB, hl, ko, pr⟩ fun a z => by
    have z' : V.ref l = .ref a := z
    cases z'; rfl⟩
theorem tr_shareD {F : Fr} {D : Ends} {t : TS} {i : Nat} [m : Mono r] {d : DM α} (hΓ : Γ[i]? = some (some (ownD P w K r d))) (k : Tr F (Γ.set i (some (sh (qD P w K r) d))) t D) : Tr F Γ t D := fun σ H ⟨A, le, g, R⟩ => by
  obtain ⟨v, hv, ⟨l, xs, rfl, h1, h2, h3, h4⟩, _⟩ := R.ent i _ hΓ
  exact k σ H (S.shr (e := ownD P w K r d) (e' := sh (qD P w K r) d) le g R hΓ hv rfl h2 ⟨l, xs, rfl, .inl upd_same, keys_le (le_new h1) h3, dpr_le (le_new h1) h4⟩ fun _ z => z)
/-- d[k] = v -/
theorem tr_put {F : Fr} {D : Ends} {u : TS} {i : Nat} [m : Mono r] {d : DM α} {pk : List Int → Prop} {pv : α → Prop} (hΓ : Γ[i]? = some (some (ownD P w K r d))) (hv : Ev F.bx te Γ r pv) (hk : Ev F.bx tk Γ (qTI K) pk) (hz : d.length < 16777216)
    (k : ∀ v k, pv v → pk k → Tr F (Γ.set i (some (ownD P w K r (putM d k v)))) u D) : Tr F Γ (tSeq (sXPut P w K (tVar i) tk te) u) D := fun σ H ⟨A, le, g, R⟩ => by
  refine hv F.H0 σ A H R _ fun v x B H1 g1 px rx => ?_
  have R1 := R.grow g1
  obtain ⟨vd, hvd, _, _⟩ := R1.ent i _ hΓ
  refine ⟨vd, hvd, hk F.H0 σ B H1 R1 _ fun y ks C H2 g2 pks ⟨b, eb, hb⟩ => ?_⟩
  have R2 := R1.grow g2
  obtain ⟨vd', hvd', ⟨a, xs, rfl, h1, h2, h3, h4⟩, _⟩ := R2.ent i _ hΓ
  rw [hvd] at hvd'; cases hvd'
  have hl : xs.length = d.length := Paired.length h4
  refine ⟨a, xs, ks, b, rfl, h2, keys_le g2.sub.le h3, eb, sqt_up g2.sub hb, by rw [PySem.sizeLine_eq]; omega, k x ks px pks _ _ ?_⟩
  exact S.chg (e := ownD P w K r d) (e' := ownD P w K r (putM d ks x)) (v := .ref a) ((le.trans g1.le).trans g2.le) ((g.trans g1).trans g2) R2 hΓ hvd rfl
    ⟨a, _, rfl, h1, upd_same, h3.put v hb, dpr_put h4 ks b (m.le g2.le rx)⟩ fun _ z => z

/-! ### sorted -/
theorem dpall_of {enc : α → PyData} (he : ∀ A H v x, Sub A H → r A v x → Dp K H v (enc x)) {B H1 : Hp} (s : Sub B H1) {vs : List V} {xs : List α} (h : Paired (r B) vs xs) : DpAll K H1 vs (xs.map enc) := by
  induction h with
  | nil => exact .nil
  | cons h1 _ ih => exact .cons (he _ _ _ _ s h1) ih
theorem keys_paired {B : Hp} {xs : DV} {d : DM α} (h : Paired (DPr r B) xs d) : KeysOk K B xs → Paired (qTI K B) (xs.map fun x => V.ref x.2.1) (d.map (·.1)) := by
  induction h with
  | nil => intro _; exact .nil
  | @cons x y _ _ h1 _ ih =>
    intro ko
    refine .cons ⟨x.2.1, rfl, ?_⟩ (ih fun z hz => ko z (List.mem_cons_of_mem _ hz))
    show SqT K B x.2.1 (y.1.map V.int)
    rw [← h1.1]
    exact ko x List.mem_cons_self
theorem en_sortG {p : List α → Prop} {enc : α → PyData} (h : Ev β te Γ (rL r) p) (he : ∀ A H v x, Sub A H → r A v x → Dp K H v (enc x)) (hp : ∀ xs, p xs → PySem.W.AllAlike (xs.map enc) ∧ PySem.W.Sortable (xs.map enc) ∧ (∀ x ∈ xs, (enc x).depth ≤ 1) ∧ xs.length ≤ 16777216) :
    EvN β (tCB (rSort K) (tCons te tNil)) Γ r fun ys => ∃ xs, p xs ∧ ys.Perm xs := fun H0 σ A H R Q q =>
  h H0 σ A H R _ fun v xs B H1 g px ⟨l, vs, e, e1, e2⟩ => by
    subst e
    obtain ⟨q1, q2, q3, q4⟩ := hp xs px
    have hl : vs.length = xs.length := Paired.length e2
    have hd : DpAll K H1 vs (xs.map enc) := dpall_of he g.sub e2
    refine ⟨l, vs, _, rfl, SqL.of (g.sub _ _ e1), hd, q1, q2, fun d hd => ?_, by rw [PySem.sizeLine_eq]; omega, fun ws a pm ha => ?_⟩
    · obtain ⟨x, hx, rfl⟩ := List.mem_map.mp hd
      exact q3 x hx
    · obtain ⟨ys, y1, y2⟩ : ∃ ys, Paired (r B) ws ys ∧ ys.Perm xs := by
        clear q1 q2 q3 q4 hl hd px e1 ha q
        have gen : ∀ {ws vs : List V}, ws.Perm vs → ∀ {xs : List α}, Paired (r B) vs xs → ∃ ys, Paired (r B) ws ys ∧ ys.Perm xs := by
          intro ws vs pm
          induction pm with
          | nil => intro xs h; cases h; exact ⟨[], .nil, .nil⟩
          | cons a _ ih =>
            intro xs h
            cases h with
            | cons h1 h2 =>
              obtain ⟨ys, z1, z2⟩ := ih h2
              exact ⟨_ :: ys, .cons h1 z1, z2.cons _⟩
          | swap a b l =>
            intro xs h
            cases h with
            | cons h1 h2 =>
              cases h2 with
              | cons h2 h3 => exact ⟨_, .cons h2 (.cons h1 h3), .swap _ _ _⟩
          | trans _ _ ih1 ih2 =>
            intro xs h
            obtain ⟨ys, z1, z2⟩ := ih2 h
            obtain ⟨zs, z3, z4⟩ := ih1 z1
            exact ⟨zs, z3, z4.trans z2⟩
        exact gen pm e2
      exact q a ws ys B _ (g.trans (Grow.newOwn g.sub ha)) (R.back g ha) (g.sub.no ha) upd_same ⟨xs, px, y2⟩ y1
theorem en_sortLL {p : List (List Int) → Prop} (h : Ev β te Γ (rL (rL qI)) p) (hp : ∀ xs, p xs → xs.length ≤ 16777216) : EvN β (tCB (rSort K) (tCons te tNil)) Γ (rL qI) fun ys => ∃ xs, p xs ∧ ys.Perm xs :=
  en_sortG (enc := fun x => .list (x.map PyData.int)) h (fun A H v x s ⟨l, vs, e, e1, e2⟩ => by
    subst e
    rw [paired_ints e2] at e1
    exact .lst (SqL.of (s _ _ e1)) (dp_ints x)) fun xs px => ⟨fun d hd d' hd' => by
      obtain ⟨x, _, rfl⟩ := List.mem_map.mp hd
      obtain ⟨y, _, rfl⟩ := List.mem_map.mp hd'
      simp [PySem.W.alike, alike_ints], .inr fun d hd => by
      obtain ⟨x, _, rfl⟩ := List.mem_map.mp hd
      exact ⟨(fun z => nomatch z), (fun _ z => nomatch z)⟩, fun x hx => by rw [PyData.depth, depth_ints]; exact Nat.le_refl _, hp xs px⟩
theorem en_sortLT {p : List (List Int) → Prop} (h : Ev β te Γ (rL (qTI K)) p) (hp : ∀ xs, p xs → xs.length ≤ 16777216 ∧ ∀ x ∈ xs, x ≠ []) : EvN β (tCB (rSort K) (tCons te tNil)) Γ (qTI K) fun ys => ∃ xs, p xs ∧ ys.Perm xs :=
  en_sortG (enc := fun x => .tuple (x.map PyData.int)) h (fun A H v x s ⟨l, e, e1⟩ => by
    subst e
    exact .tup (sqt_up s e1) (dp_ints x)) fun xs px => ⟨fun d hd d' hd' => by
      obtain ⟨x, _, rfl⟩ := List.mem_map.mp hd
      obtain ⟨y, _, rfl⟩ := List.mem_map.mp hd'
      simp [PySem.W.alike, alike_ints], .inl fun d hd => by
      obtain ⟨x, hx, rfl⟩ := List.mem_map.mp hd
      have := (hp xs px).2 x hx
      cases x with
      | nil => exact (this rfl).elim
      | cons a t => exact ⟨_, _, rfl⟩, fun x hx => by rw [PyData.depth, depth_ints]; exact Nat.le_refl _, (hp xs px).1⟩
theorem en_sortD {p : DM α → Prop} [m : Mono r] (h : EvD P w K β td Γ r p) (hp : ∀ d, p d → ∀ x ∈ d, x.1 ≠ []) : EvN β (tCB (rSortD P w K) (tCons td tNil)) Γ (qTI K) fun ys => ∃ d, p d ∧ ys.Perm (d.map (·.1)) := fun H0 σ A H R Q q =>
  h H0 σ A H R _ fun a xs d B H1 g pd st ko pr => by
    refine ⟨a, xs, rfl, st _ _ (Grow.refl g.sub), keys_le g.sub.le ko, fun x hx => ?_, fun ws l pm hl => ?_⟩
    · have gen : ∀ {xs : DV} {d : DM α}, Paired (DPr r B) xs d → (∀ y ∈ d, y.1 ≠ []) → ∀ x ∈ xs, x.1 ≠ [] := by
        intro xs d h
        induction h with
        | nil => intro _ x hx; cases hx
        | cons h1 _ ih =>
          intro hd x hx
          rcases List.mem_cons.mp hx with e | hx
          · rw [e, h1.1]; exact hd _ List.mem_cons_self
          · exact ih (fun y hy => hd y (List.mem_cons_of_mem _ hy)) x hx
      exact gen pr (hp d pd) x hx
    · have base := keys_paired pr ko
      have gen : ∀ {ws vs : List V}, ws.Perm vs → ∀ {xs : List (List Int)}, Paired (qTI K B) vs xs → ∃ ys, Paired (qTI K B) ws ys ∧ ys.Perm xs := by
        intro ws vs pm
        induction pm with
        | nil => intro xs h; cases h; exact ⟨[], .nil, .nil⟩
        | cons a _ ih =>
          intro xs h
          cases h with
          | cons h1 h2 =>
            obtain ⟨ys, z1, z2⟩ := ih h2
            exact ⟨_ :: ys, .cons h1 z1, z2.cons _⟩
        | swap a b l =>
          intro xs h
          cases h with
          | cons h1 h2 =>
            cases h2 with
            | cons h2 h3 => exact ⟨_, .cons h2 (.cons h1 h3), .swap _ _ _⟩
        | trans _ _ ih1 ih2 =>
          intro xs h
          obtain ⟨ys, z1, z2⟩ := ih2 h
          obtain ⟨zs, z3, z4⟩ := ih1 z1
          exact ⟨zs, z3, z4.trans z2⟩
      obtain ⟨ys, y1, y2⟩ := gen pm base
      exact q l ws ys B _ (g.trans (Grow.newOwn g.sub hl)) (R.back g hl) (g.sub.no hl) upd_same ⟨d, pd, y2⟩ y1
end
section
variable {X : Cx} {T : Tx}
theorem cSortL (hA : At X T) {k : Nat} (hr : Room k X.A) : CallR X (.builtin "sorted") (rSort T.K) := by rw [← hA.k]; exact call_sortG (by have := hr.un; omega)
theorem cSortT (hA : At X T) {k : Nat} (hr : Room k X.A) : CallR X (.builtin "sorted") (rSort T.K) := cSortL hA hr
theorem cSortD (hA : At X T) {k : Nat} (hr : Room k X.A) (hc : X.calm = true := by rfl) : CallR X (.builtin "sorted") (rSortD T.P T.w T.K) := by rw [← hA.k, ← hA.p, ← hA.w]; exact call_sortX hc (by have := hr.un; omega)
theorem huA {A : Around} {k : Nat} (hr : Room k A) : A.units < cLine := by have := hr.un; omega
end
end Rf
/-! Wk0: the text's statements, its facts, words. -/
namespace Rf
open PySem PySem.Spec L2
def topS (i : Nat) : Stmt := PySem.Challenge.pw_rightfares_k28_whole_foretold_holds.main.body.getD i (.Pass ⟨0, 0, 0, 0⟩)
def clB : Stmt → List Stmt
  | .ClassDef (body := b) .. => b
  | _ => []
def inS (s : Stmt) (i : Nat) : Stmt := (clB s).getD i (.Pass ⟨0, 0, 0, 0⟩)
structure TF (T : Tx) (CS CR aS : Addr) : Prop where
  len : T.mg "len" = none
  int : T.mg "int" = none
  abs : T.mg "abs" = none
  sum : T.mg "sum" = none
  min : T.mg "min" = none
  any : T.mg "any" = none
  all : T.mg "all" = none
  list : T.mg "list" = none
  str : T.mg "str" = none
  bool : T.mg "bool" = none
  tuple : T.mg "tuple" = none
  sorted : T.mg "sorted" = none
  isinstance : T.mg "isinstance" = none
  range : T.mg "range" = none
  zip : T.mg "zip" = none
  enumerate : T.mg "enumerate" = none
  gcd : T.mg "gcd" = some (.builtin "math.gcd")
  gMATCH : ∃ u, T.mg "MATCH" = some u ∧ RelV (.int 0) u
  gDELETION : ∃ u, T.mg "DELETION" = some u ∧ RelV (.int 1) u
  gINSERTION : ∃ u, T.mg "INSERTION" = some u ∧ RelV (.int 2) u
  gMOST_GROUPS : ∃ u, T.mg "MOST_GROUPS" = some u ∧ RelV (.int 4) u
  gLETTERS : ∃ u, T.mg "LETTERS" = some u ∧ RelV (.str "abcdefghijklmnopqrstuvwxyz") u
  gSTART : ∃ u, T.mg "START" = some u ∧ RelV (.ref aS) u
  startT : ∀ A : Hp, SqT T.K A aS [.int 0, .int 0, .int 0]
  clS : Cls T.K CS
  naS1 : NoAttr T.K CS "groups"
  naS2 : NoAttr T.K CS "gaps"
  naS3 : NoAttr T.K CS "sides"
  clR : Cls T.K CR
  naR1 : NoAttr T.K CR "told"
  naR2 : NoAttr T.K CR "tight"

/-! ### words: lists of signs -/
def qW : RP (List Nat) := fun _ v l => v = .str ⟨l.toArray⟩
def qC : RP Nat := fun _ v c => v = .str ⟨#[c]⟩
instance : Mono qW := ⟨fun _ h => h⟩
instance : Mono qC := ⟨fun _ h => h⟩
section
variable {K : PySem.W.Frag} {P : Program} {w : World} {β : Option Addr} {Γ : EnvA} {α γ δ : Type} {r : RP α} {te ta tb : TE} {pi pj : Int → Prop} {pb : Bool → Prop} {pw pw2 pw3 : List Nat → Prop} {pc pc2 : Nat → Prop}
theorem word_len (l : List Nat) : (⟨l.toArray⟩ : Str).length = l.length := by show l.toArray.size = _; simp
theorem word_eq {a b : List Nat} : ((⟨a.toArray⟩ : Str) = ⟨b.toArray⟩) ↔ a = b := by
  constructor
  · intro h
    have := congrArg (fun s : Str => s.cps.toList) h
    simpa using this
  · intro h; rw [h]
theorem sign_eq {a b : Nat} : ((⟨#[a]⟩ : Str) = ⟨#[b]⟩) ↔ a = b := by
  constructor
  · intro h
    have := congrArg (fun s : Str => s.cps.toList) h
    simpa using this
  · intro h; rw [h]
theorem Ev.wS (h : Ev β te Γ qW pw) : Ev β te Γ qS fun z => ∃ l, pw l ∧ z = ⟨l.toArray⟩ := h.as fun l pl => ⟨_, ⟨l, pl, rfl⟩, fun _ _ z => z⟩
theorem Ev.cS (h : Ev β te Γ qC pc) : Ev β te Γ qS fun z => ∃ c, pc c ∧ z = ⟨#[c]⟩ := h.as fun c pl => ⟨_, ⟨c, pl, rfl⟩, fun _ _ z => z⟩
theorem Ev.cW (h : Ev β te Γ qC pc) : Ev β te Γ qW fun z => ∃ c, pc c ∧ z = [c] := h.as fun c pl => ⟨_, ⟨c, pl, rfl⟩, fun _ _ z => z⟩
theorem Ev.sW {ps : Str → Prop} (h : Ev β te Γ qS ps) (k : ∀ z, ps z → pw z.cps.toList) : Ev β te Γ qW pw := h.as fun z pz => ⟨z.cps.toList, k z pz, fun _ _ e => by
  cases (show _ = _ from e)
  show V.str _ = V.str _
  simp⟩
theorem Ev.sC {ps : Str → Prop} (h : Ev β te Γ qS ps) (k : ∀ z, ps z → ∃ c, z = ⟨#[c]⟩ ∧ pc c) : Ev β te Γ qC pc := h.as fun z pz => by
  obtain ⟨c, e, pc⟩ := k z pz
  subst e
  exact ⟨c, pc, fun _ _ e => e⟩
theorem ev_sign {c : Nat} {z : Str} (e : z = ⟨#[c]⟩ := by rfl) : Ev β (tC (.str z)) Γ qC (· = c) := ev_c fun _ => by rw [e]; rfl
theorem ev_word {l : List Nat} {z : Str} (e : z = ⟨l.toArray⟩ := by rfl) : Ev β (tC (.str z)) Γ qW (· = l) := ev_c fun _ => by rw [e]; rfl
theorem ev_eqC (ha : Ev β ta Γ qC pc) (hb : Ev β tb Γ qC pc2) (k : ∀ x y, pc x → pc2 y → pb (decide (x = y))) : Ev β (tOp rEq ta tb) Γ qB pb :=
  ev_eqS ha.cS hb.cS fun x y ⟨a, pa, ea⟩ ⟨b, pb, eb⟩ => by subst ea eb; rw [show decide ((⟨#[a]⟩ : Str) = ⟨#[b]⟩) = decide (a = b) from decide_eq_decide.mpr sign_eq]; exact k a b pa pb
theorem ev_neC (ha : Ev β ta Γ qC pc) (hb : Ev β tb Γ qC pc2) (k : ∀ x y, pc x → pc2 y → pb (!decide (x = y))) : Ev β (tOp rNe ta tb) Γ qB pb :=
  ev_neS ha.cS hb.cS fun x y ⟨a, pa, ea⟩ ⟨b, pb, eb⟩ => by subst ea eb; rw [show decide ((⟨#[a]⟩ : Str) = ⟨#[b]⟩) = decide (a = b) from decide_eq_decide.mpr sign_eq]; exact k a b pa pb
theorem ev_eqCD {a b : Nat} (ha : Ev β ta Γ qC (· = a)) (hb : Ev β tb Γ qC (· = b)) : Ev β (tOp rEq ta tb) Γ qB (· = decide (a = b)) := ev_eqC ha hb (by rintro _ _ rfl rfl; rfl)
theorem ev_neCD {a b : Nat} (ha : Ev β ta Γ qC (· = a)) (hb : Ev β tb Γ qC (· = b)) : Ev β (tOp rNe ta tb) Γ qB (· = !decide (a = b)) := ev_neC ha hb (by rintro _ _ rfl rfl; rfl)
theorem ev_eqWD {a b : List Nat} (ha : Ev β ta Γ qW (· = a)) (hb : Ev β tb Γ qW (· = b)) : Ev β (tOp rEq ta tb) Γ qB (· = decide (a = b)) :=
  ev_eqS ha.wS hb.wS fun x y ⟨c, pa, ea⟩ ⟨d, pb, eb⟩ => by subst ea eb pa pb; exact decide_eq_decide.mpr word_eq
theorem ev_neWD {a b : List Nat} (ha : Ev β ta Γ qW (· = a)) (hb : Ev β tb Γ qW (· = b)) : Ev β (tOp rNe ta tb) Γ qB (· = !decide (a = b)) :=
  ev_neS ha.wS hb.wS fun x y ⟨c, pa, ea⟩ ⟨d, pb, eb⟩ => by subst ea eb pa pb; rw [decide_eq_decide.mpr word_eq]
theorem ev_lenW (h : Ev β ta Γ qW pw) (k : ∀ l, pw l → l.length ≤ 16777216 ∧ pi (l.length : Int)) : Ev β (tCB rLenStr (tCons ta tNil)) Γ qI pi :=
  ev_lenS h.wS (fun z ⟨l, pl, e⟩ => by subst e; rw [word_len]; exact (k l pl).1) fun z ⟨l, pl, e⟩ => by subst e; rw [word_len]; exact (k l pl).2
theorem ev_ixW (ha : Ev β ta Γ qW pw) (hb : Ev β tb Γ qI pi) (k : ∀ l i, pw l → pi i → l.length ≤ 16777216 ∧ ∃ c, 0 ≤ i ∧ l[i.toNat]? = some c ∧ pc c) : Ev β (tOp rIxS ta tb) Γ qC pc :=
  Ev.sC (ev_ixS (ps3 := fun z => ∃ c, z = ⟨#[c]⟩ ∧ pc c) ha.wS (fun _ _ => hb) fun z i ⟨l, pl, e⟩ pi => by
    subst e
    obtain ⟨h1, c, h2, h3, h4⟩ := k l i pl pi
    exact ⟨by rw [word_len]; exact h1, c, h2, by simpa using h3, c, rfl, h4⟩) fun z h => h
theorem src_word : SrcR P w K qW qC id := fun A v x e => by
  cases (show v = _ from e)
  refine ⟨_, _, beg_text, fun _ _ _ _ => trivial, ?_⟩
  have : ∀ l : List Nat, Paired (qC A) (l.map fun c => V.str ⟨#[c]⟩) l := by
    intro l
    induction l with
    | nil => exact .nil
    | cons c l ih => exact .cons rfl ih
  exact this x
theorem ev_catW (ha : Ev β ta Γ qW pw) (hb : Ev β tb Γ qW pw2) (k : ∀ x y, pw x → pw2 y → x.length + y.length ≤ 16777216 ∧ pw3 (x ++ y)) : Ev β (tOp (fun x y H Q => ∃ i j : Str, x = .str i ∧ y = .str j ∧ i.length + j.length ≤ sizeLine ∧ Q (.str (i ++ j)) H) ta tb) Γ qW pw3 :=
  Ev.sW (ev_catS (ps3 := fun z => pw3 z.cps.toList) ha.wS hb.wS (fun x y ⟨a, pa, ea⟩ ⟨b, pb, eb⟩ => by subst ea eb; rw [word_len, word_len]; exact (k a b pa pb).1) fun x y ⟨a, pa, ea⟩ ⟨b, pb, eb⟩ => by
    subst ea eb
    have e : ((⟨a.toArray⟩ : Str) ++ (⟨b.toArray⟩ : Str)).cps.toList = a ++ b := by
      show (a.toArray ++ b.toArray).toList = _
      simp
    rw [e]; exact (k a b pa pb).2) fun z h => h
theorem ei_word {g : TG} {js : List Nat} {e : Nat → List Ent} (h : Ev β te Γ qW pw) (tg : Tg g js qC e) : EvI β (iStr te) g Γ js e pw := fun H0 σ A H R W k =>
  h H0 σ A H R _ fun v z B H1 gr px ev => by
    cases (show v = _ from ev)
    have hz : (⟨z.toArray⟩ : Str).cps.size = z.length := by simp
    refine ⟨_, rfl, k _ _ B H1 gr px ⟨fun i C H' hi lc sc => by show i < (⟨z.toArray⟩ : Str).cps.size; rw [hz]; simpa using hi, fun C H' lc sc => by show (⟨z.toArray⟩ : Str).cps.size ≤ _; rw [hz]; simp, fun i es C H' x H'' hi lc sc y => ?_⟩⟩
    obtain ⟨rfl, c, hc, rfl⟩ := y
    have hc' : z[i]? = some c := by simpa using hc
    rw [List.getElem?_map, hc'] at hi
    cases (Option.some.inj hi)
    exact ⟨C, Grow.refl sc, fun σ Q q => tg C _ sc _ _ rfl σ Q q⟩
end
/-! ### less, loops with a state -/
theorem lss_nil : lss [] [] := trivial
theorem lss_some {e : Ent} {a b : EnvA} (h : lss a b) : lss (some e :: a) (some e :: b) := ⟨rfl, h⟩
theorem lss_none {x : Option Ent} {a b : EnvA} (h : lss a b) : lss (none :: a) (x :: b) := by
  cases x <;> exact h
theorem lss_refl : ∀ {a : EnvA}, lss a a
  | [] => lss_nil
  | none :: _ => lss_none lss_refl
  | some _ :: _ => lss_some lss_refl
theorem lss_set {x : Ent} : ∀ {a b : EnvA} (i : Nat), lss a b → lss (a.set i (some x)) (b.set i (some x))
  | [], [], _, _ => lss_nil
  | [], _ :: _, _, h => by cases h
  | none :: a, [], _, h => by cases h
  | some e :: a, [], _, h => by cases h
  | none :: a, y :: b, 0, h => by
    have h' : lss a b := by cases y <;> exact h
    exact lss_some h'
  | none :: a, y :: b, i + 1, h => by
    have h' : lss a b := by cases y <;> exact h
    exact lss_none (lss_set i h')
  | some e :: a, y :: b, 0, h => lss_some h.2
  | some e :: a, y :: b, i + 1, h => by
    obtain ⟨rfl, h'⟩ : y = some e ∧ lss a b := h
    exact lss_some (lss_set i h')
theorem lss_sets : ∀ {js : List Nat} {es : List Ent} {a b : EnvA}, lss a b → lss (setsE a js es) (setsE b js es)
  | [], _, _, _, h => by unfold setsE; exact h
  | _ :: _, [], _, _, h => by unfold setsE; exact h
  | j :: js, e :: es, _, _, h => by unfold setsE; exact lss_sets (lss_set j h)
theorem tr_assocC {F : Fr} {Γ : EnvA} {D : Ends} {t u w : TS} (h : Tr F Γ (Evl.tCut t (tSeq u w)) D) : Tr F Γ (tSeq (Evl.tCut t u) w) D := h
def Nx {S : Type} (I : S → Prop) (G : S → EnvA) (Γ' : EnvA) : Prop := ∃ s, I s ∧ lss (G s) Γ'
section
variable {F : Fr} {Γ : EnvA} {D : Ends} {γ S : Type} {t u : TS}
theorem lss_trans : ∀ {a b c : EnvA}, lss a b → lss b c → lss a c
  | [], [], [], _, _ => lss_nil
  | [], [], _ :: _, _, h => by cases h
  | [], _ :: _, _, h, _ => by cases h
  | none :: a, [], _, h, _ => by cases h
  | some e :: a, [], _, h, _ => by cases h
  | none :: a, y :: b, [], _, h => by cases y <;> cases h
  | some e :: a, y :: b, [], _, h => by cases y <;> cases h
  | none :: a, y :: b, z :: c, h, k => by
    have h' : lss a b := by cases y <;> exact h
    have k' : lss b c := by
      cases y with
      | none => cases z <;> exact k
      | some e => exact k.2
    exact lss_none (lss_trans h' k')
  | some e :: a, y :: b, z :: c, h, k => by
    obtain ⟨rfl, h'⟩ : y = some e ∧ lss a b := h
    obtain ⟨rfl, k'⟩ : z = some e ∧ lss b c := k
    exact lss_some (lss_trans h' k')
theorem tr_nx {I : S → Prop} {G : S → EnvA} (hD : D.nx = SS F (Nx I G)) (s : S) (h : I s) (l : lss (G s) Γ) : Tr F Γ tNext D := fun σ H st => by
  show D.nx σ H
  rw [hD]
  exact ⟨Γ, ⟨s, h, l⟩, st⟩
theorem tr_forS {wi : TI} {g : TG} {js : List Nat} {e : γ → List Ent} {q : List γ → Prop} (hi : EvI F.bx wi g Γ js e q) (I : List γ → Nat → S → Prop) (G : S → EnvA) (h0 : ∀ xs, q xs → ∃ s, I xs 0 s ∧ lss (G s) Γ)
    (hs : ∀ xs, q xs → ∀ B i x, xs[i]? = some x → ∀ s, I xs i s → Tr (F.at B) (setsE (G s) js (e x)) t ⟨SS (F.at B) (Nx (I xs (i + 1)) G), D.rt, u D, SS (F.at B) (Nx (I xs (i + 1)) G)⟩)
    (hd : ∀ xs, q xs → ∀ s, I xs xs.length s → Tr F (G s) u D) : Tr F Γ (tSeq (tFor wi g t) u) D :=
  tr_for hi (fun xs i => Nx (I xs i) G) h0 (fun xs qx B i x hx Γ' ⟨s, hI, l⟩ => tr_less (lss_sets l) (hs xs qx B i x hx s hI)) fun xs qx Γ' ⟨s, hI, l⟩ => tr_less l (hd xs qx s hI)
theorem tr_cutS (I : S → Prop) (G : S → EnvA) (h1 : Tr F Γ t { D with nx := SS F (Nx I G) }) (h2 : ∀ s, I s → Tr F (G s) u D) : Tr F Γ (Evl.tCut t u) D :=
  tr_cut (Nx I G) h1 fun Γ' ⟨s, hI, l⟩ => tr_less l (h2 s hI)
end
/-! ### isinstance -/
section
variable {K : PySem.W.Frag} {β : Option Addr} {Γ : EnvA} {α : Type} {r : RP α} {ta : TE}
theorem ev_isi {n m : String} {b : Bool} {p : α → Prop} (h : Ev β ta Γ r p) (ht : ∀ A H v x, Sub A H → r A v x → TyOf K H v (.type n)) (hk : kitB n m = some b) : Ev β (tCB (rIsi K) (tCons ta (tCons (tC (.ty m)) tNil))) Γ qB (· = b) := fun H0 σ A H R Q q =>
  h H0 σ A H R _ fun v x B H1 g px rx => ⟨v, .ty m, .type n, .type m, b, rfl, .ty m, .base (ht B H1 v x g.sub rx), kit_ty hk, q _ b B H1 g rfl rfl⟩
theorem ev_isiL {p : List α → Prop} (h : Ev β ta Γ (rL r) p) : Ev β (tCB (rIsi K) (tCons ta (tCons (tC (.ty "list")) tNil))) Γ qB (· = true) := ev_isi (n := "list") h (fun A H v x s ⟨l, vs, e, h1, _⟩ => by subst e; exact .lst (s _ _ h1)) (by decide +kernel)
theorem ev_isiW {p : List Nat → Prop} (h : Ev β ta Γ qW p) : Ev β (tCB (rIsi K) (tCons ta (tCons (tC (.ty "str")) tNil))) Γ qB (· = true) := ev_isi (n := "str") h (fun A H v x s e => by cases (show v = _ from e); exact .str _) (by decide +kernel)
theorem ev_isiB {p : Bool → Prop} (h : Ev β ta Γ qB p) : Ev β (tCB (rIsi K) (tCons ta (tCons (tC (.ty "bool")) tNil))) Γ qB (· = true) := ev_isi (n := "bool") h (fun A H v x s e => by cases (show v = _ from e); exact .bl _) (by decide +kernel)
end
section
variable {β : Option Addr} {Γ : EnvA}
theorem ev_call1 {ι δ : Type} {args : ι → List Ent} {pre : ι → Prop} {r : RP δ} {post : ι → δ → Prop} {E : XK} {p : δ → Prop} {γ1 : Type} {r1 : RP γ1} [m1 : Mono r1] {p1 : γ1 → Prop} {t1 : TE} (h1 : Ev β t1 Γ r1 p1) (k : ∀ x1, p1 x1 → ∃ g, [sh r1 x1] = args g ∧ pre g ∧ ∀ x, post g x → p x) : Ev β (tCall (spOf (fun _ => none) args pre r post) [] E (tCons t1 tNil)) Γ r p :=
  ev_call (ea_cons h1 fun x1 q1 => ea_nil (k x1 q1))
theorem ev_call2 {ι δ : Type} {args : ι → List Ent} {pre : ι → Prop} {r : RP δ} {post : ι → δ → Prop} {E : XK} {p : δ → Prop} {γ1 : Type} {r1 : RP γ1} [m1 : Mono r1] {p1 : γ1 → Prop} {t1 : TE} {γ2 : Type} {r2 : RP γ2} [m2 : Mono r2] {p2 : γ2 → Prop} {t2 : TE} (h1 : Ev β t1 Γ r1 p1) (h2 : Ev β t2 Γ r2 p2) (k : ∀ x1 x2, p1 x1 → p2 x2 → ∃ g, [sh r1 x1, sh r2 x2] = args g ∧ pre g ∧ ∀ x, post g x → p x) : Ev β (tCall (spOf (fun _ => none) args pre r post) [] E (tCons t1 (tCons t2 tNil))) Γ r p :=
  ev_call (ea_cons h1 fun x1 q1 => ea_cons h2 fun x2 q2 => ea_nil (k x1 x2 q1 q2))
theorem ev_call3 {ι δ : Type} {args : ι → List Ent} {pre : ι → Prop} {r : RP δ} {post : ι → δ → Prop} {E : XK} {p : δ → Prop} {γ1 : Type} {r1 : RP γ1} [m1 : Mono r1] {p1 : γ1 → Prop} {t1 : TE} {γ2 : Type} {r2 : RP γ2} [m2 : Mono r2] {p2 : γ2 → Prop} {t2 : TE} {γ3 : Type} {r3 : RP γ3} [m3 : Mono r3] {p3 : γ3 → Prop} {t3 : TE} (h1 : Ev β t1 Γ r1 p1) (h2 : Ev β t2 Γ r2 p2) (h3 : Ev β t3 Γ r3 p3) (k : ∀ x1 x2 x3, p1 x1 → p2 x2 → p3 x3 → ∃ g, [sh r1 x1, sh r2 x2, sh r3 x3] = args g ∧ pre g ∧ ∀ x, post g x → p x) : Ev β (tCall (spOf (fun _ => none) args pre r post) [] E (tCons t1 (tCons t2 (tCons t3 tNil)))) Γ r p :=
  ev_call (ea_cons h1 fun x1 q1 => ea_cons h2 fun x2 q2 => ea_cons h3 fun x3 q3 => ea_nil (k x1 x2 x3 q1 q2 q3))
theorem ev_call4 {ι δ : Type} {args : ι → List Ent} {pre : ι → Prop} {r : RP δ} {post : ι → δ → Prop} {E : XK} {p : δ → Prop} {γ1 : Type} {r1 : RP γ1} [m1 : Mono r1] {p1 : γ1 → Prop} {t1 : TE} {γ2 : Type} {r2 : RP γ2} [m2 : Mono r2] {p2 : γ2 → Prop} {t2 : TE} {γ3 : Type} {r3 : RP γ3} [m3 : Mono r3] {p3 : γ3 → Prop} {t3 : TE} {γ4 : Type} {r4 : RP γ4} [m4 : Mono r4] {p4 : γ4 → Prop} {t4 : TE} (h1 : Ev β t1 Γ r1 p1) (h2 : Ev β t2 Γ r2 p2) (h3 : Ev β t3 Γ r3 p3) (h4 : Ev β t4 Γ r4 p4) (k : ∀ x1 x2 x3 x4, p1 x1 → p2 x2 → p3 x3 → p4 x4 → ∃ g, [sh r1 x1, sh r2 x2, sh r3 x3, sh r4 x4] = args g ∧ pre g ∧ ∀ x, post g x → p x) : Ev β (tCall (spOf (fun _ => none) args pre r post) [] E (tCons t1 (tCons t2 (tCons t3 (tCons t4 tNil))))) Γ r p :=
  ev_call (ea_cons h1 fun x1 q1 => ea_cons h2 fun x2 q2 => ea_cons h3 fun x3 q3 => ea_cons h4 fun x4 q4 => ea_nil (k x1 x2 x3 x4 q1 q2 q3 q4))
theorem ev_call5 {ι δ : Type} {args : ι → List Ent} {pre : ι → Prop} {r : RP δ} {post : ι → δ → Prop} {E : XK} {p : δ → Prop} {γ1 : Type} {r1 : RP γ1} [m1 : Mono r1] {p1 : γ1 → Prop} {t1 : TE} {γ2 : Type} {r2 : RP γ2} [m2 : Mono r2] {p2 : γ2 → Prop} {t2 : TE} {γ3 : Type} {r3 : RP γ3} [m3 : Mono r3] {p3 : γ3 → Prop} {t3 : TE} {γ4 : Type} {r4 : RP γ4} [m4 : Mono r4] {p4 : γ4 → Prop} {t4 : TE} {γ5 : Type} {r5 : RP γ5} [m5 : Mono r5] {p5 : γ5 → Prop} {t5 : TE} (h1 : Ev β t1 Γ r1 p1) (h2 : Ev β t2 Γ r2 p2) (h3 : Ev β t3 Γ r3 p3) (h4 : Ev β t4 Γ r4 p4) (h5 : Ev β t5 Γ r5 p5) (k : ∀ x1 x2 x3 x4 x5, p1 x1 → p2 x2 → p3 x3 → p4 x4 → p5 x5 → ∃ g, [sh r1 x1, sh r2 x2, sh r3 x3, sh r4 x4, sh r5 x5] = args g ∧ pre g ∧ ∀ x, post g x → p x) : Ev β (tCall (spOf (fun _ => none) args pre r post) [] E (tCons t1 (tCons t2 (tCons t3 (tCons t4 (tCons t5 tNil)))))) Γ r p :=
  ev_call (ea_cons h1 fun x1 q1 => ea_cons h2 fun x2 q2 => ea_cons h3 fun x3 q3 => ea_cons h4 fun x4 q4 => ea_cons h5 fun x5 q5 => ea_nil (k x1 x2 x3 x4 x5 q1 q2 q3 q4 q5))
end
section
variable {β : Option Addr} {Γ : EnvA}
theorem ev_call1D {ι δ : Type} {args : ι → List Ent} {pre : ι → Prop} {r : RP δ} {post : ι → δ → Prop} {E : XK} {p : δ → Prop} {γ1 : Type} {r1 : RP γ1} [m1 : Mono r1] {x1 : γ1} {t1 : TE} (h1 : Ev β t1 Γ r1 (· = x1)) (g : ι) (e : [sh r1 x1] = args g) (hp : pre g) (k : ∀ x, post g x → p x) : Ev β (tCall (spOf (fun _ => none) args pre r post) [] E (tCons t1 tNil)) Γ r p :=
  ev_call1 h1 fun y1 e1 => ⟨g, by rw [e1]; exact e, hp, k⟩
theorem ev_call2D {ι δ : Type} {args : ι → List Ent} {pre : ι → Prop} {r : RP δ} {post : ι → δ → Prop} {E : XK} {p : δ → Prop} {γ1 : Type} {r1 : RP γ1} [m1 : Mono r1] {x1 : γ1} {t1 : TE} {γ2 : Type} {r2 : RP γ2} [m2 : Mono r2] {x2 : γ2} {t2 : TE} (h1 : Ev β t1 Γ r1 (· = x1)) (h2 : Ev β t2 Γ r2 (· = x2)) (g : ι) (e : [sh r1 x1, sh r2 x2] = args g) (hp : pre g) (k : ∀ x, post g x → p x) : Ev β (tCall (spOf (fun _ => none) args pre r post) [] E (tCons t1 (tCons t2 tNil))) Γ r p :=
  ev_call2 h1 h2 fun y1 y2 e1 e2 => ⟨g, by rw [e1, e2]; exact e, hp, k⟩
theorem ev_call3D {ι δ : Type} {args : ι → List Ent} {pre : ι → Prop} {r : RP δ} {post : ι → δ → Prop} {E : XK} {p : δ → Prop} {γ1 : Type} {r1 : RP γ1} [m1 : Mono r1] {x1 : γ1} {t1 : TE} {γ2 : Type} {r2 : RP γ2} [m2 : Mono r2] {x2 : γ2} {t2 : TE} {γ3 : Type} {r3 : RP γ3} [m3 : Mono r3] {x3 : γ3} {t3 : TE} (h1 : Ev β t1 Γ r1 (· = x1)) (h2 : Ev β t2 Γ r2 (· = x2)) (h3 : Ev β t3 Γ r3 (· = x3)) (g : ι) (e : [sh r1 x1, sh r2 x2, sh r3 x3] = args g) (hp : pre g) (k : ∀ x, post g x → p x) : Ev β (tCall (spOf (fun _ => none) args pre r post) [] E (tCons t1 (tCons t2 (tCons t3 tNil)))) Γ r p :=
  ev_call3 h1 h2 h3 fun y1 y2 y3 e1 e2 e3 => ⟨g, by rw [e1, e2, e3]; exact e, hp, k⟩
theorem ev_call4D {ι δ : Type} {args : ι → List Ent} {pre : ι → Prop} {r : RP δ} {post : ι → δ → Prop} {E : XK} {p : δ → Prop} {γ1 : Type} {r1 : RP γ1} [m1 : Mono r1] {x1 : γ1} {t1 : TE} {γ2 : Type} {r2 : RP γ2} [m2 : Mono r2] {x2 : γ2} {t2 : TE} {γ3 : Type} {r3 : RP γ3} [m3 : Mono r3] {x3 : γ3} {t3 : TE} {γ4 : Type} {r4 : RP γ4} [m4 : Mono r4] {x4 : γ4} {t4 : TE} (h1 : Ev β t1 Γ r1 (· = x1)) (h2 : Ev β t2 Γ r2 (· = x2)) (h3 : Ev β t3 Γ r3 (· = x3)) (h4 : Ev β t4 Γ r4 (· = x4)) (g : ι) (e : [sh r1 x1, sh r2 x2, sh r3 x3, sh r4 x4] = args g) (hp : pre g) (k : ∀ x, post g x → p x) : Ev β (tCall (spOf (fun _ => none) args pre r post) [] E (tCons t1 (tCons t2 (tCons t3 (tCons t4 tNil))))) Γ r p :=
  ev_call4 h1 h2 h3 h4 fun y1 y2 y3 y4 e1 e2 e3 e4 => ⟨g, by rw [e1, e2, e3, e4]; exact e, hp, k⟩
theorem ev_call5D {ι δ : Type} {args : ι → List Ent} {pre : ι → Prop} {r : RP δ} {post : ι → δ → Prop} {E : XK} {p : δ → Prop} {γ1 : Type} {r1 : RP γ1} [m1 : Mono r1] {x1 : γ1} {t1 : TE} {γ2 : Type} {r2 : RP γ2} [m2 : Mono r2] {x2 : γ2} {t2 : TE} {γ3 : Type} {r3 : RP γ3} [m3 : Mono r3] {x3 : γ3} {t3 : TE} {γ4 : Type} {r4 : RP γ4} [m4 : Mono r4] {x4 : γ4} {t4 : TE} {γ5 : Type} {r5 : RP γ5} [m5 : Mono r5] {x5 : γ5} {t5 : TE} (h1 : Ev β t1 Γ r1 (· = x1)) (h2 : Ev β t2 Γ r2 (· = x2)) (h3 : Ev β t3 Γ r3 (· = x3)) (h4 : Ev β t4 Γ r4 (· = x4)) (h5 : Ev β t5 Γ r5 (· = x5)) (g : ι) (e : [sh r1 x1, sh r2 x2, sh r3 x3, sh r4 x4, sh r5 x5] = args g) (hp : pre g) (k : ∀ x, post g x → p x) : Ev β (tCall (spOf (fun _ => none) args pre r post) [] E (tCons t1 (tCons t2 (tCons t3 (tCons t4 (tCons t5 tNil)))))) Γ r p :=
  ev_call5 h1 h2 h3 h4 h5 fun y1 y2 y3 y4 y5 e1 e2 e3 e4 e5 => ⟨g, by rw [e1, e2, e3, e4, e5]; exact e, hp, k⟩
end
section
variable {F : Fr} {Γ : EnvA} {D : Ends} {α : Type} {r : RP α} [m : Mono r] {te tk : TE} {u : TS} {K : PySem.W.Frag} {P : Program} {w : World}
theorem tr_asgD {i : Nat} {x : α} (h : Ev F.bx te Γ r (· = x)) (k : Tr F (Γ.set i (some (sh r x))) u D) : Tr F Γ (tSeq (tAsg te (gName i)) u) D := tr_asg h fun y e => by rw [e]; exact k
theorem tr_asgNE {i : Nat} {xs : List α} (h : EvN F.bx te Γ r (· = xs)) (k : Tr F (Γ.set i (some (ownL r xs))) u D) : Tr F Γ (tSeq (tAsg te (gName i)) u) D := tr_asgN h fun y e => by rw [e]; exact k
theorem tr_asgNDE {i : Nat} {d : DM α} (h : EnD P w K F.bx te Γ r (· = d)) (k : Tr F (Γ.set i (some (ownD P w K r d))) u D) : Tr F Γ (tSeq (tAsg te (gName i)) u) D := tr_asgND h fun y e => by rw [e]; exact k
theorem tr_appendD {i : Nat} {xs : List α} {x : α} (hΓ : Γ[i]? = some (some (ownL r xs))) (h : Ev F.bx te Γ r (· = x)) (hz : xs.length < 16777216) (k : Tr F (Γ.set i (some (ownL r (xs ++ [x])))) u D) : Tr F Γ (tSeq (tDrop (tBM K "list" rAppend (tVar i) (tCons te tNil))) u) D :=
  tr_append hΓ h hz fun y e => by rw [e]; exact k
theorem tr_putD {i : Nat} {d : DM α} {x : α} {kk : List Int} (hΓ : Γ[i]? = some (some (ownD P w K r d))) (hv : Ev F.bx te Γ r (· = x)) (hk : Ev F.bx tk Γ (qTI K) (· = kk)) (hz : d.length < 16777216) (k : Tr F (Γ.set i (some (ownD P w K r (putM d kk x)))) u D) : Tr F Γ (tSeq (sXPut P w K (tVar i) tk te) u) D :=
  tr_put hΓ hv hk hz fun y z e1 e2 => by rw [e1, e2]; exact k
theorem tr_retD {x : α} {Q : α → Prop} (h : Ev F.bx te Γ r (· = x)) (hQ : Rt F r Q D.rt) (k : Q x) : Tr F Γ (tRet te) D := tr_ret h hQ fun y e => by rw [e]; exact k
theorem tr_ifD {tt : TT} {b : Bool} {t w : TS} (h : EvT F.bx tt Γ (· = b)) (k1 : b = true → Tr F Γ (tSeq t w) D) (k2 : b = false → Tr F Γ (tSeq u w) D) : Tr F Γ (tSeq (tIfS tt t u) w) D := tr_if h (fun e => k1 e.symm) fun e => k2 e.symm
end
end Rf
/-! WkA: schemes, counts. -/
namespace Rf
open PySem PySem.Spec PyProof.Rows L2

structure Sc where
  groups : List (List Nat)
  gaps : Bool
  sides : Bool
def b2 (b : Bool) : Int := if b then 1 else 0
def Sc.other (s : Sc) : Int := b2 (decide ((0 : Int) < s.groups.length))
def Sc.size (s : Sc) : Int := s.other + 1 + b2 s.gaps + 1 + b2 s.sides
def Sc.near (s : Sc) (a b : Nat) : Bool := s.groups.any fun g => decide (a ∈ g) && decide (b ∈ g)
def qSc (CS : Addr) : RP Sc := fun A v x => ∃ (a dx : Addr) (v1 v2 v3 : V), v = .ref a ∧ A a = some (.ins CS dx [("groups", v1), ("gaps", v2), ("sides", v3)]) ∧ rL qW A v1 x.groups ∧ qB A v2 x.gaps ∧ qB A v3 x.sides
instance (CS : Addr) : Mono (qSc CS) := ⟨fun l ⟨a, dx, v1, v2, v3, h1, h2, h3, h4, h5⟩ => ⟨a, dx, v1, v2, v3, h1, l.ins h2, Mono.le l h3, h4, h5⟩⟩
theorem other_range (s : Sc) : 0 ≤ s.other ∧ s.other ≤ 1 := by unfold Sc.other b2; split <;> omega
theorem b2_range (b : Bool) : 0 ≤ b2 b ∧ b2 b ≤ 1 := by unfold b2; split <;> omega
theorem size_range (s : Sc) : 2 ≤ s.size ∧ s.size ≤ 5 := by
  have := other_range s; have := b2_range s.gaps; have := b2_range s.sides
  unfold Sc.size; omega
def addedF (s : Sc) (kind before : Int) (a b : Nat) : List Int :=
  if kind = 0 then
    if a ≠ b then (List.replicate s.size.toNat (0 : Int)).set (if s.other ≠ 0 ∧ s.near a b = true then 0 else s.other.toNat) 1 else List.replicate s.size.toNat 0
  else
    (if s.gaps = true ∧ before ≠ kind then (List.replicate s.size.toNat (0 : Int)).set (s.other + 1).toNat 1 else List.replicate s.size.toNat 0).set
      (if kind = 1 ∨ s.sides = false then (s.other + 1 + b2 s.gaps).toNat else (s.other + 1 + b2 s.gaps + 1).toNat) 1
section
variable {T : Tx} {CS CR aS : Addr} {β : Option Addr} {Γ : EnvA} {te : TE} {ps : Sc → Prop} {K : PySem.W.Frag}
theorem ev_groups {p : List (List Nat) → Prop} (F : TF T CS CR aS) (h : Ev β te Γ (qSc CS) ps) (k : ∀ x, ps x → p x.groups) : Ev β (tFld T.K te "groups") Γ (rL qW) p :=
  ev_fld F.clS F.naS1 Sc.groups (fun A v x ⟨a, dx, v1, v2, v3, h1, h2, h3, h4, h5⟩ => ⟨a, dx, _, v1, h1, h2, rfl, h3⟩) h k
theorem ev_gaps {p : Bool → Prop} (F : TF T CS CR aS) (h : Ev β te Γ (qSc CS) ps) (k : ∀ x, ps x → p x.gaps) : Ev β (tFld T.K te "gaps") Γ qB p :=
  ev_fld F.clS F.naS2 Sc.gaps (fun A v x ⟨a, dx, v1, v2, v3, h1, h2, h3, h4, h5⟩ => ⟨a, dx, _, v2, h1, h2, rfl, h4⟩) h k
theorem ev_sides {p : Bool → Prop} (F : TF T CS CR aS) (h : Ev β te Γ (qSc CS) ps) (k : ∀ x, ps x → p x.sides) : Ev β (tFld T.K te "sides") Γ qB p :=
  ev_fld F.clS F.naS3 Sc.sides (fun A v x ⟨a, dx, v1, v2, v3, h1, h2, h3, h4, h5⟩ => ⟨a, dx, _, v3, h1, h2, rfl, h5⟩) h k
end

/-! ### plus, minus, product -/
theorem paired_eq {α γ : Type} {f : α → γ} : ∀ {l : List α} {ys : List γ}, Paired (fun x z => z = f x) l ys → ys = l.map f
  | _, _, .nil => rfl
  | _, _, .cons h t => by rw [h, paired_eq t, List.map_cons]
theorem filter_true' {α : Type} (l : List α) : l.filter (fun _ => true) = l := by simp
def zw (f : Int → Int → Int) (xs ys : List Int) : List Int := List.zipWith f xs ys
theorem zw_zip (f : Int → Int → Int) (xs ys : List Int) : (xs.zip ys).map (fun x => f x.1 x.2) = zw f xs ys := by
  unfold zw; rw [List.zip_eq_zipWith, List.map_zipWith]
abbrev two (α γ : Type) := α × γ
section
variable {T : Tx} {CS CR aS : Addr}
abbrev s_plus : Stmt := topS 18
abbrev N_plus : List Str := ["one", "two", "a", "b"]
theorem sc_plus : FnScope N_plus ["one", "two"] (defScope s_plus) := ⟨rfl, rfl, rfl, by decide +kernel, rfl, by decide +kernel, by decide +kernel⟩
theorem nd_plus : N_plus.Nodup := by decide +kernel
theorem bd_plus (kV doc pm : Value) (an : Option Addr) (cdv ct : Value) (us : List Value) (hl : us.length = List.length (α := Str) ["one", "two"]) : bindArgs (PySem.W.fnOf "plus" "plus" (defArgs s_plus) (defBody s_plus) (defScope s_plus) .none kV doc pm an cdv ct) ⟨us, []⟩ = pure (List.zip (α := Str) ["one", "two"] us) := match us, hl with | [_, _], _ => rfl

abbrev spPlus : Sp := spOf (ι := List Int × List Int) (fun _ => none) (fun g => [sh (rL qI) g.1, sh (rL qI) g.2]) (fun g => g.1.length ≤ 1000) (rL qI) (fun g z => z = zw (· + ·) g.1 g.2)
theorem ok_plus (F : TF T CS CR aS) (D : Dn T "plus" s_plus) : Cl T 1 "plus" spPlus := by
  refine cl_def D sc_plus bd_plus (fun _ => rfl) fun f cdv A outer s H E hr => ⟨_, (pss_one (ps_ret (pe_lc (own := [("a", 2), ("b", 3)]) rfl nd_plus (piZ (⟨rfl, rfl, rfl, rfl, rfl⟩ : At _ T) rfl F.zip (pa_cons (pv 0) (pa_cons (pv 1) pa_nil))) (blkOk_by (own := [("a", 2), ("b", 3)]) (N := N_plus) (sc := defScope s_plus) (by decide +kernel)) (fun _ _ _ _ _ => (pgT 2 (⟨rfl, rfl, rfl, rfl, rfl⟩ : At _ T) rfl (pgs_cons (pg_name (i := 2) nd_plus rfl (.inl rfl) (.inr rfl)) (pgs_cons (pg_name (i := 3) nd_plus rfl (.inl rfl) (.inr rfl)) pgs_nil)))) (fun _ _ _ _ _ => pts_nil) (fun _ _ _ _ _ => (pe_op op_add (pv 2) (pv 3)))))), ?_⟩
  rintro ⟨xs, ys⟩ Fm D eb hz hR -
  refine tr_ret ((en_lc (b := fun _ => true) (q := fun (x : Int × Int) (z : Int) => z = x.1 + x.2) (ei_zip (r1 := qI) (r2 := qI) (ev_var rfl) (ev_var rfl) tg_pair) (by decide) ?_ (fun _ _ _ _ => et_yes) fun _ _ x _ _ => ev_i0D (ev_var rfl) (ev_var rfl)).ev) hR ?_
  · rintro _ ⟨_, _, e1, e2, rfl⟩
    obtain rfl := e1.symm; obtain rfl := e2.symm
    have hz : xs.length ≤ 1000 := hz
    rw [List.length_zip]; omega
  · rintro z ⟨_, ⟨_, _, e1, e2, rfl⟩, h⟩
    obtain rfl := e1.symm; obtain rfl := e2.symm
    rw [filter_true'] at h
    rw [paired_eq (f := fun x : Int × Int => x.1 + x.2) h]
    exact zw_zip (· + ·) xs ys
abbrev s_minus : Stmt := topS 19
abbrev N_minus : List Str := ["one", "two", "a", "b"]
theorem sc_minus : FnScope N_minus ["one", "two"] (defScope s_minus) := ⟨rfl, rfl, rfl, by decide +kernel, rfl, by decide +kernel, by decide +kernel⟩
theorem nd_minus : N_minus.Nodup := by decide +kernel
theorem bd_minus (kV doc pm : Value) (an : Option Addr) (cdv ct : Value) (us : List Value) (hl : us.length = List.length (α := Str) ["one", "two"]) : bindArgs (PySem.W.fnOf "minus" "minus" (defArgs s_minus) (defBody s_minus) (defScope s_minus) .none kV doc pm an cdv ct) ⟨us, []⟩ = pure (List.zip (α := Str) ["one", "two"] us) := match us, hl with | [_, _], _ => rfl

abbrev spMinus : Sp := spOf (ι := List Int × List Int) (fun _ => none) (fun g => [sh (rL qI) g.1, sh (rL qI) g.2]) (fun g => g.1.length ≤ 1000) (rL qI) (fun g z => z = zw (· - ·) g.1 g.2)
theorem ok_minus (F : TF T CS CR aS) (D : Dn T "minus" s_minus) : Cl T 1 "minus" spMinus := by
  refine cl_def D sc_minus bd_minus (fun _ => rfl) fun f cdv A outer s H E hr => ⟨_, (pss_one (ps_ret (pe_lc (own := [("a", 2), ("b", 3)]) rfl nd_minus (piZ (⟨rfl, rfl, rfl, rfl, rfl⟩ : At _ T) rfl F.zip (pa_cons (pv 0) (pa_cons (pv 1) pa_nil))) (blkOk_by (own := [("a", 2), ("b", 3)]) (N := N_minus) (sc := defScope s_minus) (by decide +kernel)) (fun _ _ _ _ _ => (pgT 2 (⟨rfl, rfl, rfl, rfl, rfl⟩ : At _ T) rfl (pgs_cons (pg_name (i := 2) nd_minus rfl (.inl rfl) (.inr rfl)) (pgs_cons (pg_name (i := 3) nd_minus rfl (.inl rfl) (.inr rfl)) pgs_nil)))) (fun _ _ _ _ _ => pts_nil) (fun _ _ _ _ _ => (pe_op op_sub (pv 2) (pv 3)))))), ?_⟩
  rintro ⟨xs, ys⟩ Fm D eb hz hR -
  refine tr_ret ((en_lc (b := fun _ => true) (q := fun (x : Int × Int) (z : Int) => z = x.1 - x.2) (ei_zip (r1 := qI) (r2 := qI) (ev_var rfl) (ev_var rfl) tg_pair) (by decide) ?_ (fun _ _ _ _ => et_yes) fun _ _ x _ _ => ev_i0D (ev_var rfl) (ev_var rfl)).ev) hR ?_
  · rintro _ ⟨_, _, e1, e2, rfl⟩
    obtain rfl := e1.symm; obtain rfl := e2.symm
    have hz : xs.length ≤ 1000 := hz
    rw [List.length_zip]; omega
  · rintro z ⟨_, ⟨_, _, e1, e2, rfl⟩, h⟩
    obtain rfl := e1.symm; obtain rfl := e2.symm
    rw [filter_true'] at h
    rw [paired_eq (f := fun x : Int × Int => x.1 - x.2) h]
    exact zw_zip (· - ·) xs ys
abbrev s_product : Stmt := topS 20
abbrev N_product : List Str := ["costs", "counts", "cost", "count"]
theorem sc_product : FnScope N_product ["costs", "counts"] (defScope s_product) := ⟨rfl, rfl, rfl, by decide +kernel, rfl, by decide +kernel, by decide +kernel⟩
theorem nd_product : N_product.Nodup := by decide +kernel
theorem bd_product (kV doc pm : Value) (an : Option Addr) (cdv ct : Value) (us : List Value) (hl : us.length = List.length (α := Str) ["costs", "counts"]) : bindArgs (PySem.W.fnOf "product" "product" (defArgs s_product) (defBody s_product) (defScope s_product) .none kV doc pm an cdv ct) ⟨us, []⟩ = pure (List.zip (α := Str) ["costs", "counts"] us) := match us, hl with | [_, _], _ => rfl

def prodF (xs ys : List Int) : Int := (zw (· * ·) xs ys).sum
abbrev spProduct : Sp := spOf (ι := List Int × List Int) (fun _ => none) (fun g => [sh (rL qI) g.1, sh (rL qI) g.2]) (fun g => g.1.length ≤ 1000 ∧ (∀ x ∈ g.1, x.natAbs < 2 ^ 4000) ∧ ∀ y ∈ g.2, y.natAbs < 2 ^ 900000) qI (fun g z => z = prodF g.1 g.2)
theorem ok_product (F : TF T CS CR aS) (D : Dn T "product" s_product) : Cl T 1 "product" spProduct := by
  refine cl_def D sc_product bd_product (fun _ => rfl) fun f cdv A outer s H E hr => ⟨_, (pss_one (ps_ret (pb (⟨rfl, rfl, rfl, rfl, rfl⟩ : At _ T) (cSum (⟨rfl, rfl, rfl, rfl, rfl⟩ : At _ T) rfl) rfl F.sum boot_sum (pa_cons (pe_lc (own := [("cost", 2), ("count", 3)]) rfl nd_product (piZ (⟨rfl, rfl, rfl, rfl, rfl⟩ : At _ T) rfl F.zip (pa_cons (pv 0) (pa_cons (pv 1) pa_nil))) (blkOk_by (own := [("cost", 2), ("count", 3)]) (N := N_product) (sc := defScope s_product) (by decide +kernel)) (fun _ _ _ _ _ => (pgT 2 (⟨rfl, rfl, rfl, rfl, rfl⟩ : At _ T) rfl (pgs_cons (pg_name (i := 2) nd_product rfl (.inl rfl) (.inr rfl)) (pgs_cons (pg_name (i := 3) nd_product rfl (.inl rfl) (.inr rfl)) pgs_nil)))) (fun _ _ _ _ _ => pts_nil) (fun _ _ _ _ _ => (pe_op op_mulW (pv 2) (pv 3)))) pa_nil)))), ?_⟩
  rintro ⟨xs, ys⟩ Fm D eb ⟨hz, hx, hy⟩ hR -
  refine tr_ret (ev_sum (en_lc (b := fun _ => true) (q := fun (x : Int × Int) (z : Int) => z = x.1 * x.2) (ei_zip (r1 := qI) (r2 := qI) (ev_var rfl) (ev_var rfl) tg_pair) (by decide) ?_ (fun _ _ _ _ => et_yes) ?_).ev (pi := (· = prodF xs ys)) ?_) hR (fun z e => e)
  · rintro _ ⟨_, _, e1, e2, rfl⟩
    obtain rfl := e1.symm; obtain rfl := e2.symm
    have hz : xs.length ≤ 1000 := hz
    rw [List.length_zip]; omega
  · rintro _ ⟨_, _, e1, e2, rfl⟩ x hm _
    obtain rfl := e1.symm; obtain rfl := e2.symm
    exact ev_iiD (ev_var rfl) (ev_var rfl) (wide_mul (hx _ (List.of_mem_zip hm).1) (hy _ (List.of_mem_zip hm).2) (by decide) (by decide) (by decide))
  · rintro z ⟨_, ⟨_, _, e1, e2, rfl⟩, h⟩
    obtain rfl := e1.symm; obtain rfl := e2.symm
    rw [filter_true'] at h
    rw [paired_eq (f := fun x : Int × Int => x.1 * x.2) h, zw_zip]
    rfl
abbrev s_size : Stmt := topS 15
abbrev N_size : List Str := ["scheme"]
theorem sc_size : FnScope N_size ["scheme"] (defScope s_size) := ⟨rfl, rfl, rfl, by decide +kernel, rfl, by decide +kernel, by decide +kernel⟩
theorem nd_size : N_size.Nodup := by decide +kernel
theorem bd_size (kV doc pm : Value) (an : Option Addr) (cdv ct : Value) (us : List Value) (hl : us.length = List.length (α := Str) ["scheme"]) : bindArgs (PySem.W.fnOf "size" "size" (defArgs s_size) (defBody s_size) (defScope s_size) .none kV doc pm an cdv ct) ⟨us, []⟩ = pure (List.zip (α := Str) ["scheme"] us) := match us, hl with | [_], _ => rfl

abbrev spSize (CS : Addr) : Sp := spOf (ι := Sc) (fun _ => none) (fun g => [sh (qSc CS) g]) (fun _ => True) qI (fun g z => z = g.size)
theorem ok_size (F : TF T CS CR aS) (D : Dn T "size" s_size) : Cl T 1 "size" (spSize CS) := by
  refine cl_def D sc_size bd_size (fun _ => rfl) fun f cdv A outer s H E hr => ⟨_, (pss_one (ps_ret (pe_op op_add (pe_op op_add (pe_op op_add (pe_op op_add (pbT (⟨rfl, rfl, rfl, rfl, rfl⟩ : At _ T) cInt rfl F.int boot_int (pa_cons (pe_cmpR op_gt (pb (⟨rfl, rfl, rfl, rfl, rfl⟩ : At _ T) (cLen (⟨rfl, rfl, rfl, rfl, rfl⟩ : At _ T)) rfl F.len boot_len (pa_cons (pfld (⟨rfl, rfl, rfl, rfl, rfl⟩ : At _ T) (pv 0)) pa_nil)) pe_int (nomark _)) pa_nil)) pe_int) (pbT (⟨rfl, rfl, rfl, rfl, rfl⟩ : At _ T) cInt rfl F.int boot_int (pa_cons (pfld (⟨rfl, rfl, rfl, rfl, rfl⟩ : At _ T) (pv 0)) pa_nil))) pe_int) (pbT (⟨rfl, rfl, rfl, rfl, rfl⟩ : At _ T) cInt rfl F.int boot_int (pa_cons (pfld (⟨rfl, rfl, rfl, rfl, rfl⟩ : At _ T) (pv 0)) pa_nil))))), ?_⟩
  rintro sc Fm D eb - hR -
  refine tr_ret (ev_i0D (x := sc.other + 1 + b2 sc.gaps + 1) (y := b2 sc.sides) (ev_i0D (x := sc.other + 1 + b2 sc.gaps) (ev_i0D (x := sc.other + 1) (y := b2 sc.gaps) (ev_i0D (x := sc.other) (ev_intB (pb := (· = decide ((0 : Int) < sc.groups.length))) (ev_b0D (ev_lenL (pi := (· = (sc.groups.length : Int))) (ev_groups (p := (· = sc.groups)) F (ev_var rfl) ?_) ?_) ev_int) ?_) ev_int) (ev_intB (pb := (· = sc.gaps)) (ev_gaps F (ev_var rfl) ?_) ?_)) ev_int) (ev_intB (pb := (· = sc.sides)) (ev_sides F (ev_var rfl) ?_) ?_)) hR fun _ h => h
  all_goals (rintro _ rfl; rfl)
abbrev s_are_near : Stmt := topS 16
abbrev N_are_near : List Str := ["scheme", "a", "b", "group"]
theorem sc_are_near : FnScope N_are_near ["scheme", "a", "b"] (defScope s_are_near) := ⟨rfl, rfl, rfl, by decide +kernel, rfl, by decide +kernel, by decide +kernel⟩
theorem nd_are_near : N_are_near.Nodup := by decide +kernel
theorem bd_are_near (kV doc pm : Value) (an : Option Addr) (cdv ct : Value) (us : List Value) (hl : us.length = List.length (α := Str) ["scheme", "a", "b"]) : bindArgs (PySem.W.fnOf "_are_near" "_are_near" (defArgs s_are_near) (defBody s_are_near) (defScope s_are_near) .none kV doc pm an cdv ct) ⟨us, []⟩ = pure (List.zip (α := Str) ["scheme", "a", "b"] us) := match us, hl with | [_, _, _], _ => rfl

abbrev spNear (CS : Addr) : Sp := spOf (ι := Sc × Nat × Nat) (fun _ => none) (fun g => [sh (qSc CS) g.1, sh qC g.2.1, sh qC g.2.2]) (fun g => g.1.groups.length ≤ 4) qB (fun g z => z = g.1.near g.2.1 g.2.2)
theorem ok_near (F : TF T CS CR aS) (D : Dn T "_are_near" s_are_near) : Cl T 1 "_are_near" (spNear CS) := by
  refine cl_def D sc_are_near bd_are_near (fun _ => rfl) fun f cdv A outer s H E hr => ⟨_, (pss_one (ps_ret (pb (⟨rfl, rfl, rfl, rfl, rfl⟩ : At _ T) (cAny (⟨rfl, rfl, rfl, rfl, rfl⟩ : At _ T) rfl) rfl F.any boot_any (pa_cons (pe_lc (own := [("group", 3)]) rfl nd_are_near (piL (⟨rfl, rfl, rfl, rfl, rfl⟩ : At _ T) (pfld (⟨rfl, rfl, rfl, rfl, rfl⟩ : At _ T) (pv 0))) (blkOk_by (own := [("group", 3)]) (N := N_are_near) (sc := defScope s_are_near) (by decide +kernel)) (fun _ _ _ _ _ => (pg_name (i := 3) nd_are_near rfl (.inl rfl) (.inr rfl))) (fun _ _ _ _ _ => pts_nil) (fun _ _ _ _ _ => (pe_and (pe_cmpR op_inS (pv 1) (pv 3) rfl) (pe_one (pe_cmpR op_inS (pv 2) (pv 3) rfl))))) pa_nil)))), ?_⟩
  rintro ⟨sc, a, b⟩ Fm D eb hz hR -
  refine tr_ret (ev_any (en_lc (b := fun _ => true) (q := fun (x : List Nat) (z : Bool) => z = (decide (a ∈ x) && decide (b ∈ x))) (ei_list (ev_groups (p := (· = sc.groups)) F (ev_var rfl) (by rintro _ rfl; rfl)) tg_name) (by decide) ?_ (fun _ _ _ _ => et_yes) ?_).ev (pb := (· = sc.near a b)) ?_) hR (fun z e => e)
  · rintro _ rfl
    have : sc.groups.length ≤ 4 := hz
    omega
  · rintro _ rfl x _ _
    refine ev_andVD (ev_inS (ev_var (r := qC) rfl).cS (ev_var (r := qW) rfl).wS ?_) fun _ => ev_inS (ev_var (r := qC) rfl).cS (ev_var (r := qW) rfl).wS ?_
    · rintro _ _ ⟨c, rfl, rfl⟩ ⟨l, rfl, rfl⟩
      exact ⟨_, rfl, by simp⟩
    · rintro _ _ ⟨c, rfl, rfl⟩ ⟨l, rfl, rfl⟩
      exact ⟨_, rfl, by simp⟩
  · rintro z ⟨_, rfl, h⟩
    rw [filter_true'] at h
    rw [paired_eq h, List.any_map]
    rfl
end
end Rf
/-! WkB: one column's counts, an alignment's. -/
namespace Rf
open PySem PySem.Spec PyProof.Rows L2

section
variable {T : Tx} {CS CR aS : Addr} {β : Option Addr} {Γ : EnvA} {te ta : TE} {K : PySem.W.Frag}
theorem bne_dec {x : Int} : (x != 0) = decide (x ≠ 0) := by by_cases h : x = 0 <;> simp [h]
theorem paired_const {α γ : Type} {c : γ} : ∀ {l : List α} {ys : List γ}, Paired (fun _ z => z = c) l ys → ys = List.replicate l.length c
  | _, _, .nil => rfl
  | _, _, .cons h t => by rw [h, paired_const t]; rfl
theorem en_zeros {j : Nat} {n : Int} (h : Ev β ta Γ qI (· = n)) (hn : 0 ≤ n ∧ n ≤ 1000) : EvN β (tLc (iRng1 (tCons ta tNil)) (gName j) tYes (tC (.int 0)) [j]) Γ qI (· = List.replicate n.toNat (0 : Int)) :=
  (en_lc (b := fun _ => true) (q := fun (_ : Int) (z : Int) => z = 0) (ei_range h (by rintro _ rfl; omega) tg_name) (fun _ h => h) (by rintro _ ⟨_, rfl, rfl⟩; simp; omega) (fun _ _ _ _ => et_yes) fun _ _ x _ _ => ev_int).imp (by
    rintro z ⟨_, ⟨_, rfl, rfl⟩, h⟩
    rw [filter_true'] at h
    rw [paired_const h]; simp)
theorem ev_other {s : Sc} (F : TF T CS CR aS) (h : Ev β te Γ (qSc CS) (· = s)) : Ev β (tCB rInt1 (tCons (tOp (rI0 fun i j => .bl (decide (j < i))) (tCB (rLen2 K) (tCons (tFld T.K te "groups") tNil)) (tC (.int 0))) tNil)) Γ qI (· = s.other) :=
  ev_intB (pb := (· = decide ((0 : Int) < s.groups.length))) (ev_b0D (ev_lenL (pi := (· = (s.groups.length : Int))) (ev_groups (p := (· = s.groups)) F h (by rintro _ rfl; rfl)) (by rintro _ rfl; rfl)) ev_int) (by rintro _ rfl; rfl)
theorem ev_gapsD {s : Sc} (F : TF T CS CR aS) (h : Ev β te Γ (qSc CS) (· = s)) : Ev β (tFld T.K te "gaps") Γ qB (· = s.gaps) := ev_gaps F h (by rintro _ rfl; rfl)
theorem ev_sidesD {s : Sc} (F : TF T CS CR aS) (h : Ev β te Γ (qSc CS) (· = s)) : Ev β (tFld T.K te "sides") Γ qB (· = s.sides) := ev_sides F h (by rintro _ rfl; rfl)
theorem ev_intBD {b : Bool} (h : Ev β ta Γ qB (· = b)) : Ev β (tCB rInt1 (tCons ta tNil)) Γ qI (· = b2 b) := ev_intB h (by rintro _ rfl; rfl)
theorem ev_sizeD {s : Sc} {E : XK} (h : Ev β te Γ (qSc CS) (· = s)) : Ev β (tCall (spSize CS) [] E (tCons te tNil)) Γ qI (· = s.size) := ev_call1 h (by rintro _ rfl; exact ⟨_, rfl, trivial, fun _ h => h⟩)

abbrev s_added : Stmt := topS 17
abbrev N_added : List Str := ["scheme", "kind", "before", "a", "b", "told", "place", "other"]
theorem sc_added : FnScope N_added ["scheme", "kind", "before", "a", "b"] (defScope s_added) := ⟨rfl, rfl, rfl, by decide +kernel, rfl, by decide +kernel, by decide +kernel⟩
theorem nd_added : N_added.Nodup := by decide +kernel
theorem bd_added (kV doc pm : Value) (an : Option Addr) (cdv ct : Value) (us : List Value) (hl : us.length = List.length (α := Str) ["scheme", "kind", "before", "a", "b"]) : bindArgs (PySem.W.fnOf "added" "added" (defArgs s_added) (defBody s_added) (defScope s_added) .none kV doc pm an cdv ct) ⟨us, []⟩ = pure (List.zip (α := Str) ["scheme", "kind", "before", "a", "b"] us) := match us, hl with | [_, _, _, _, _], _ => rfl

abbrev spAdded (CS : Addr) : Sp := spOf (ι := Sc × Int × Int × Nat × Nat) (fun _ => none) (fun g => [sh (qSc CS) g.1, sh qI g.2.1, sh qI g.2.2.1, sh qC g.2.2.2.1, sh qC g.2.2.2.2]) (fun g => g.1.groups.length ≤ 4) (rL qI) (fun g z => z = addedF g.1 g.2.1 g.2.2.1 g.2.2.2.1 g.2.2.2.2)
theorem ok_added (F : TF T CS CR aS) (csize : Cl T 1 "size" (spSize CS)) (c_are_near : Cl T 1 "_are_near" (spNear CS)) (D : Dn T "added" s_added) : Cl T 2 "added" (spAdded CS) := by
  refine cl_def D sc_added bd_added (fun _ => rfl) fun f cdv A outer s H E hr => ⟨_, (pss_cons (ps_setLc (i := 5) (own := [("place", 6)]) rfl nd_added rfl rfl (sw_true rfl rfl rfl rfl) (piR (⟨rfl, rfl, rfl, rfl, rfl⟩ : At _ T) rfl F.range (pa_cons (pc csize (⟨rfl, rfl, rfl, rfl, rfl⟩ : At _ T) hr (by decide) rfl (pa_cons (pv 0) pa_nil)) pa_nil)) (blkOk_by (own := [("place", 6)]) (N := N_added) (sc := defScope s_added) (by decide +kernel)) (fun _ _ _ _ _ => (pg_name (i := 6) nd_added rfl (.inl rfl) (.inr rfl))) (fun _ _ _ _ _ => pts_nil) (fun _ _ _ _ _ => pe_int))
      (pss_cons (ps_set (i := 7) nd_added rfl (Or.inl rfl) (pbT (⟨rfl, rfl, rfl, rfl, rfl⟩ : At _ T) cInt rfl F.int boot_int (pa_cons (pe_cmpR op_gt (pb (⟨rfl, rfl, rfl, rfl, rfl⟩ : At _ T) (cLen (⟨rfl, rfl, rfl, rfl, rfl⟩ : At _ T)) rfl F.len boot_len (pa_cons (pfld (⟨rfl, rfl, rfl, rfl, rfl⟩ : At _ T) (pv 0)) pa_nil)) pe_int (nomark _)) pa_nil)))
      (pss_cons (ps_if (pt_cmpR op_eq (pv 1) (pgl (⟨rfl, rfl, rfl, rfl, rfl⟩ : At _ T) rfl F.gMATCH) (nomark _)) (Evl.pss_cut (ps_if (pt_cmpR op_ne (pv 3) (pv 4) (nomark _)) (pss_one (ps_asg pe_int (pgS (pv 5) (pe_ifExp (PW.pt (pw_and (ptru (⟨rfl, rfl, rfl, rfl, rfl⟩ : At _ T) (pv 7)) (pw_and1 (pt_val (pc c_are_near (⟨rfl, rfl, rfl, rfl, rfl⟩ : At _ T) hr (by decide) rfl (pa_cons (pv 0) (pa_cons (pv 3) (pa_cons (pv 4) pa_nil)))))))) pe_int (pv 7))))) pss_nil)
      (pss_one (ps_ret (pv 5)))) pss_nil)
      (Evl.pss_cut (ps_if (PW.pt (pw_and (pt_val (pfld (⟨rfl, rfl, rfl, rfl, rfl⟩ : At _ T) (pv 0))) (pw_and1 (pt_cmpR op_ne (pv 2) (pv 1) (nomark _))))) (pss_one (ps_asg pe_int (pgS (pv 5) (pe_op op_add (pv 7) pe_int)))) pss_nil)
      (pss_cons (ps_set (i := 6) nd_added rfl (Or.inl rfl) (pe_op op_add (pe_op op_add (pv 7) pe_int) (pbT (⟨rfl, rfl, rfl, rfl, rfl⟩ : At _ T) cInt rfl F.int boot_int (pa_cons (pfld (⟨rfl, rfl, rfl, rfl, rfl⟩ : At _ T) (pv 0)) pa_nil))))
      (pss_cons (ps_asg pe_int (pgS (pv 5) (pe_ifExp (PW.pt (pw_or (pt_cmpR op_eq (pv 1) (pgl (⟨rfl, rfl, rfl, rfl, rfl⟩ : At _ T) rfl F.gDELETION) (nomark _)) (pw_or1 (pt_not (pt_val (pfld (⟨rfl, rfl, rfl, rfl, rfl⟩ : At _ T) (pv 0))))))) (pv 6) (pe_op op_add (pv 6) pe_int))))
      (pss_one (ps_ret (pv 5))))))))), ?_⟩
  rintro ⟨sc, kind, before, a, b⟩ Fm D eb hz hR -
  have ho := other_range sc
  have hg := b2_range sc.gaps
  have hs := b2_range sc.sides
  have hsz := size_range sc
  have hsz2 : sc.size = sc.other + 1 + b2 sc.gaps + 1 + b2 sc.sides := rfl
  show Tr Fm [some (sh (qSc CS) sc), some (sh qI kind), some (sh qI before), some (sh qC a), some (sh qC b), none, none, none] _ _
  refine tr_asgN (en_zeros (n := sc.size) (ev_sizeD (ev_var rfl)) (by omega)) ?_
  rintro _ rfl
  refine tr_asg (ev_other F (ev_var rfl)) ?_
  rintro _ rfl
  refine tr_if (q := (· = decide (kind = 0))) (et_test (ev_eqID (ev_var rfl) ev_int)) (fun hb => ?_) (fun hb => ?_)
  · have hk : kind = 0 := by simpa using hb.symm
    refine tr_assocC (tr_cutS (S := List Int) (fun l => l = addedF sc kind before a b) (fun l => [some (sh (qSc CS) sc), some (sh qI kind), some (sh qI before), some (sh qC a), some (sh qC b), some (ownL qI l), none, some (sh qI sc.other)]) ?_ ?_)
    · refine tr_last (tr_if (q := (· = !decide (a = b))) (et_test (ev_neCD (ev_var rfl) (ev_var rfl))) (fun hb => ?_) (fun hb => ?_))
      · have hab : a ≠ b := by simpa using hb.symm
        refine tr_setL (i := 5) (j := if sc.other ≠ 0 ∧ sc.near a b = true then 0 else sc.other.toNat) rfl ev_int (fun _ _ => ?_) ?_ ?_
        · refine ev_if (pb := (· = (decide (sc.other ≠ 0) && sc.near a b))) (et_andD (a := decide (sc.other ≠ 0)) (et_truI (ev_var rfl) ?_) fun _ => et_B (ev_call3 (ev_var rfl) (ev_var rfl) (ev_var rfl) ?_)) (fun hb => ?_) (fun hb => ?_)
          · rintro _ rfl; exact bne_dec
          · rintro _ _ _ rfl rfl rfl; exact ⟨(_, _, _), rfl, hz, fun _ h => h⟩
          · have : sc.other ≠ 0 ∧ sc.near a b = true := by simpa using hb.symm
            rw [if_pos this]; exact ev_int
          · have : ¬ (sc.other ≠ 0 ∧ sc.near a b = true) := by
              intro h; rw [decide_eq_true h.1, h.2] at hb; cases hb
            rw [if_neg this]
            refine (ev_var (r := qI) rfl).imp ?_
            rintro _ rfl; omega
        · rw [List.length_replicate]; split <;> omega
        · rintro _ rfl
          refine tr_nx rfl _ ?_ (by repeat (first | exact lss_nil | apply lss_some | apply lss_none))
          show _ = addedF sc kind before a b
          unfold addedF
          rw [if_pos hk, if_pos hab]
      · have hab : ¬ a ≠ b := by simpa using hb.symm
        refine tr_nil (tr_nx rfl _ ?_ (by repeat (first | exact lss_nil | apply lss_some | apply lss_none)))
        show _ = addedF sc kind before a b
        unfold addedF
        rw [if_pos hk, if_neg hab]
    · rintro l hl
      refine tr_share (i := 5) rfl (tr_retS (ev_var rfl) hR fun x e => ?_)
      rw [e]; exact hl
  · have hk : kind ≠ 0 := by simpa using hb.symm
    refine tr_nil (tr_cutS (S := List Int) (fun l => l = (if sc.gaps = true ∧ before ≠ kind then (List.replicate sc.size.toNat (0 : Int)).set (sc.other + 1).toNat 1 else List.replicate sc.size.toNat 0))
      (fun l => [some (sh (qSc CS) sc), some (sh qI kind), some (sh qI before), some (sh qC a), some (sh qC b), some (ownL qI l), none, some (sh qI sc.other)]) ?_ ?_)
    · refine tr_last (tr_if (q := (· = (sc.gaps && !decide (before = kind)))) (et_andD (et_B (ev_gapsD F (ev_var rfl))) fun _ => et_test (ev_neID (ev_var rfl) (ev_var rfl))) (fun hb => ?_) (fun hb => ?_))
      · have hc : sc.gaps = true ∧ before ≠ kind := by simpa using hb.symm
        have e1 : b2 sc.gaps = 1 := by rw [hc.1]; rfl
        refine tr_setL (i := 5) (j := (sc.other + 1).toNat) rfl ev_int (fun _ _ => (ev_i0D (x := sc.other) (y := 1) (ev_var rfl) ev_int).imp ?_) ?_ ?_
        · rintro _ rfl; omega
        · rw [List.length_replicate]; omega
        · rintro _ rfl
          refine tr_nx rfl _ ?_ (by repeat (first | exact lss_nil | apply lss_some | apply lss_none))
          show _ = (if sc.gaps = true ∧ before ≠ kind then _ else _)
          rw [if_pos hc]
      · have hc : ¬ (sc.gaps = true ∧ before ≠ kind) := by
          intro h
          rw [h.1] at hb
          simp [h.2] at hb
        refine tr_nil (tr_nx rfl _ ?_ (by repeat (first | exact lss_nil | apply lss_some | apply lss_none)))
        show _ = (if sc.gaps = true ∧ before ≠ kind then _ else _)
        rw [if_neg hc]
    · rintro l hl
      have len : l.length = sc.size.toNat := by
        rw [hl]; split <;> simp
      refine tr_asg (ev_i0D (x := sc.other + 1) (y := b2 sc.gaps) (ev_i0D (x := sc.other) (y := 1) (ev_var rfl) ev_int) (ev_intBD (ev_gapsD F (ev_var rfl)))) ?_
      rintro _ rfl
      refine tr_setL (i := 5) (j := if kind = 1 ∨ sc.sides = false then (sc.other + 1 + b2 sc.gaps).toNat else (sc.other + 1 + b2 sc.gaps + 1).toNat) rfl ev_int (fun _ _ => ?_) ?_ ?_
      · refine ev_if (pb := (· = (decide (kind = 1) || !sc.sides))) (et_orD (et_test (ev_eqID (ev_var rfl) ev_int)) fun _ => et_notD (et_B (ev_sidesD F (ev_var rfl)))) (fun hb => ?_) (fun hb => ?_)
        · have : kind = 1 ∨ sc.sides = false := by simpa using hb.symm
          rw [if_pos this]
          refine (ev_var (r := qI) rfl).imp ?_
          rintro _ rfl; omega
        · have : ¬ (kind = 1 ∨ sc.sides = false) := by
            intro h
            rcases h with h | h <;> simp [h] at hb
          rw [if_neg this]
          refine (ev_i0D (x := sc.other + 1 + b2 sc.gaps) (y := 1) (ev_var rfl) ev_int).imp ?_
          rintro _ rfl; omega
      · rw [len]
        by_cases q : kind = 1 ∨ sc.sides = false
        · rw [if_pos q]; omega
        · rw [if_neg q]
          have : sc.sides = true := by
            cases h : sc.sides with
            | true => rfl
            | false => exact (q (.inr h)).elim
          have : b2 sc.sides = 1 := by rw [this]; rfl
          omega
      · rintro _ rfl
        refine tr_share (i := 5) rfl (tr_ret (ev_var rfl) hR fun x e => ?_)
        rw [e]
        show _ = addedF sc kind before a b
        unfold addedF
        rw [if_neg hk, hl]

abbrev s_kinds_of : Stmt := topS 10
abbrev N_kinds_of : List Str := ["alignment", "kinds", "a", "b"]
theorem sc_kinds_of : FnScope N_kinds_of ["alignment"] (defScope s_kinds_of) := ⟨rfl, rfl, rfl, by decide +kernel, rfl, by decide +kernel, by decide +kernel⟩
theorem nd_kinds_of : N_kinds_of.Nodup := by decide +kernel
theorem bd_kinds_of (kV doc pm : Value) (an : Option Addr) (cdv ct : Value) (us : List Value) (hl : us.length = List.length (α := Str) ["alignment"]) : bindArgs (PySem.W.fnOf "kinds_of" "kinds_of" (defArgs s_kinds_of) (defBody s_kinds_of) (defScope s_kinds_of) .none kV doc pm an cdv ct) ⟨us, []⟩ = pure (List.zip (α := Str) ["alignment"] us) := match us, hl with | [_], _ => rfl

def kindF (x : Nat × Nat) : Int := if x.1 = 45 then 2 else if x.2 = 45 then 1 else 0
def kindsF (al : List Nat × List Nat) : List Int := (al.1.zip al.2).map kindF
abbrev qAl : RP (List Nat × List Nat) := qP qW qW
abbrev spKinds : Sp := spOf (ι := List Nat × List Nat) (fun _ => none) (fun g => [sh qAl g]) (fun g => g.1.length ≤ 1000) (rL qI) (fun g z => z = kindsF g)
theorem ok_kinds_of (F : TF T CS CR aS) (D : Dn T "kinds_of" s_kinds_of) : Cl T 1 "kinds_of" spKinds := by
  refine cl_def D sc_kinds_of bd_kinds_of (fun _ => rfl) fun f cdv A outer s H E hr => ⟨_, (pss_cons (ps_set (i := 1) nd_kinds_of rfl (Or.inl rfl) (pe_lst pa_nil))
      (pss_cons (ps_for PassesOwn.never rfl (piZ2 (⟨rfl, rfl, rfl, rfl, rfl⟩ : At _ T) rfl F.zip (pa_cons (ixT (⟨rfl, rfl, rfl, rfl, rfl⟩ : At _ T) (pv 0) pe_int) (pa_cons (ixT (⟨rfl, rfl, rfl, rfl, rfl⟩ : At _ T) (pv 0) pe_int) pa_nil))) (pgT 2 (⟨rfl, rfl, rfl, rfl, rfl⟩ : At _ T) rfl (pgs_cons (pg_name (i := 2) nd_kinds_of rfl (.inl rfl) (.inl rfl)) (pgs_cons (pg_name (i := 3) nd_kinds_of rfl (.inl rfl) (.inl rfl)) pgs_nil))) (pss_one (ps_if (pt_cmpR op_eq (pv 2) pe_str (nomark _)) (pss_one (ps_expr (pmAppend (⟨rfl, rfl, rfl, rfl, rfl⟩ : At _ T) (pv 1) (pa_cons (pgl (⟨rfl, rfl, rfl, rfl, rfl⟩ : At _ T) rfl F.gINSERTION) pa_nil)))) (pss_one (ps_if (pt_cmpR op_eq (pv 3) pe_str (nomark _)) (pss_one (ps_expr (pmAppend (⟨rfl, rfl, rfl, rfl, rfl⟩ : At _ T) (pv 1) (pa_cons (pgl (⟨rfl, rfl, rfl, rfl, rfl⟩ : At _ T) rfl F.gDELETION) pa_nil)))) (pss_one (ps_expr (pmAppend (⟨rfl, rfl, rfl, rfl, rfl⟩ : At _ T) (pv 1) (pa_cons (pgl (⟨rfl, rfl, rfl, rfl, rfl⟩ : At _ T) rfl F.gMATCH) pa_nil)))))))))
      (pss_one (ps_ret (pv 1))))), ?_⟩
  rintro ⟨x, y⟩ Fm D eb hz hR -
  show Tr Fm [some (sh qAl (x, y)), none, none, none] _ _
  refine tr_asgN (r := qI) en_nil ?_
  rintro _ rfl
  refine tr_forS (S := List Int) (ei_z2 src_word src_word (ev_ixP1 (p3 := (· = x)) (ev_var rfl) (by rintro _ rfl; rfl)) (ev_ixP2 (p3 := (· = y)) (ev_var rfl) (by rintro _ rfl; rfl)) tg_pair) (fun xs i l => l = (xs.take i).map kindF)
    (fun l => [some (sh qAl (x, y)), some (ownL qI l), none, none]) ?_ ?_ ?_
  · rintro xs -
    exact ⟨[], rfl, (by repeat (first | exact lss_nil | apply lss_some | apply lss_none))⟩
  · rintro xs ⟨x', y', ex, ey, el⟩ B i c hc l hl
    have hlen : xs.length ≤ 1000 := by
      rw [el, ex]
      have : x.length ≤ 1000 := hz
      rw [List.length_zip]; show min x.length _ ≤ _; omega
    have hll : l.length < 16777216 := by
      rw [hl, List.length_map, List.length_take]; omega
    show Tr (Fm.at B) [some (sh qAl (x, y)), some (ownL qI l), some (sh qC c.1), some (sh qC c.2)] _ _
    have fin : ∀ n, n = kindF c → l ++ [n] = (xs.take (i + 1)).map kindF := fun n hn => by rw [take_succ' hc, List.map_append, hl, hn]; rfl
    refine tr_last (tr_if (q := (· = decide (c.1 = 45))) (et_test (ev_eqCD (ev_var rfl) ev_sign)) (fun hb => ?_) (fun hb => ?_))
    · refine tr_append rfl ev_int hll ?_
      rintro _ rfl
      refine tr_nx rfl _ (fin _ ?_) (by repeat (first | exact lss_nil | apply lss_some | apply lss_none))
      unfold kindF
      rw [if_pos (by simpa using hb.symm)]
    · have h1 : ¬ c.1 = 45 := by simpa using hb.symm
      refine tr_if (q := (· = decide (c.2 = 45))) (et_test (ev_eqCD (ev_var rfl) ev_sign)) (fun hb => ?_) (fun hb => ?_)
      · refine tr_append rfl ev_int hll ?_
        rintro _ rfl
        refine tr_nx rfl _ (fin _ ?_) (by repeat (first | exact lss_nil | apply lss_some | apply lss_none))
        unfold kindF
        rw [if_neg h1, if_pos (by simpa using hb.symm)]
      · refine tr_append rfl ev_int hll ?_
        rintro _ rfl
        refine tr_nx rfl _ (fin _ ?_) (by repeat (first | exact lss_nil | apply lss_some | apply lss_none))
        unfold kindF
        rw [if_neg h1, if_neg (by simpa using hb.symm)]
  · rintro xs ⟨x', y', ex, ey, el⟩ l hl
    refine tr_share (i := 1) rfl (tr_ret (ev_var rfl) hR fun z e => ?_)
    rw [e, hl, List.take_length, el, ex, ey]
    rfl

abbrev s_counts_of : Stmt := topS 21
abbrev N_counts_of : List Str := ["scheme", "alignment", "told", "place", "before", "kind", "a", "b"]
theorem sc_counts_of : FnScope N_counts_of ["scheme", "alignment"] (defScope s_counts_of) := ⟨rfl, rfl, rfl, by decide +kernel, rfl, by decide +kernel, by decide +kernel⟩
theorem nd_counts_of : N_counts_of.Nodup := by decide +kernel
theorem bd_counts_of (kV doc pm : Value) (an : Option Addr) (cdv ct : Value) (us : List Value) (hl : us.length = List.length (α := Str) ["scheme", "alignment"]) : bindArgs (PySem.W.fnOf "counts_of" "counts_of" (defArgs s_counts_of) (defBody s_counts_of) (defScope s_counts_of) .none kV doc pm an cdv ct) ⟨us, []⟩ = pure (List.zip (α := Str) ["scheme", "alignment"] us) := match us, hl with | [_, _], _ => rfl

def stepF (sc : Sc) (st : List Int × Int) (c : Int × Nat × Nat) : List Int × Int := (zw (· + ·) st.1 (addedF sc c.1 st.2 c.2.1 c.2.2), c.1)
def zipAl (al : List Nat × List Nat) : List (Int × Nat × Nat) := (kindsF al).zip (al.1.zip al.2)
def countsF (sc : Sc) (al : List Nat × List Nat) : List Int := ((zipAl al).foldl (stepF sc) (List.replicate sc.size.toNat 0, 0)).1
theorem added_len (s : Sc) (k b : Int) (x y : Nat) : (addedF s k b x y).length = s.size.toNat := by
  unfold addedF
  split
  · split <;> simp
  · split <;> simp
theorem zw_len (f : Int → Int → Int) (xs ys : List Int) : (zw f xs ys).length = min xs.length ys.length := by unfold zw; simp
theorem fold_len (sc : Sc) : ∀ (l : List (Int × Nat × Nat)) (st : List Int × Int), st.1.length = sc.size.toNat → (l.foldl (stepF sc) st).1.length = sc.size.toNat
  | [], _, h => h
  | c :: l, st, h => by
    rw [List.foldl_cons]
    refine fold_len sc l _ ?_
    unfold stepF
    show (zw _ _ _).length = _
    rw [zw_len, added_len, h, Nat.min_self]
abbrev spCounts (CS : Addr) : Sp := spOf (ι := Sc × List Nat × List Nat) (fun _ => none) (fun g => [sh (qSc CS) g.1, sh qAl g.2]) (fun g => g.1.groups.length ≤ 4 ∧ g.2.1.length ≤ 1000) (rL qI) (fun g z => z = countsF g.1 g.2)
theorem ok_counts_of (F : TF T CS CR aS) (csize : Cl T 1 "size" (spSize CS)) (ckinds_of : Cl T 1 "kinds_of" spKinds) (cplus : Cl T 1 "plus" spPlus) (cadded : Cl T 2 "added" (spAdded CS)) (D : Dn T "counts_of" s_counts_of) : Cl T 3 "counts_of" (spCounts CS) := by
  refine cl_def D sc_counts_of bd_counts_of (fun _ => rfl) fun f cdv A outer s H E hr => ⟨_, (pss_cons (ps_setLc (i := 2) (own := [("place", 3)]) rfl nd_counts_of rfl rfl (sw_true rfl rfl rfl rfl) (piR (⟨rfl, rfl, rfl, rfl, rfl⟩ : At _ T) rfl F.range (pa_cons (pc csize (⟨rfl, rfl, rfl, rfl, rfl⟩ : At _ T) hr (by decide) rfl (pa_cons (pv 0) pa_nil)) pa_nil)) (blkOk_by (own := [("place", 3)]) (N := N_counts_of) (sc := defScope s_counts_of) (by decide +kernel)) (fun _ _ _ _ _ => (pg_name (i := 3) nd_counts_of rfl (.inl rfl) (.inr rfl))) (fun _ _ _ _ _ => pts_nil) (fun _ _ _ _ _ => pe_int))
      (pss_cons (ps_set (i := 4) nd_counts_of rfl (Or.inl rfl) (pgl (⟨rfl, rfl, rfl, rfl, rfl⟩ : At _ T) rfl F.gMATCH))
      (pss_cons (ps_for PassesOwn.never rfl (piZ3 (⟨rfl, rfl, rfl, rfl, rfl⟩ : At _ T) rfl F.zip (pa_cons (pc ckinds_of (⟨rfl, rfl, rfl, rfl, rfl⟩ : At _ T) hr (by decide) rfl (pa_cons (pv 1) pa_nil)) (pa_cons (ixT (⟨rfl, rfl, rfl, rfl, rfl⟩ : At _ T) (pv 1) pe_int) (pa_cons (ixT (⟨rfl, rfl, rfl, rfl, rfl⟩ : At _ T) (pv 1) pe_int) pa_nil)))) (pgT 3 (⟨rfl, rfl, rfl, rfl, rfl⟩ : At _ T) rfl (pgs_cons (pg_name (i := 5) nd_counts_of rfl (.inl rfl) (.inl rfl)) (pgs_cons (pg_name (i := 6) nd_counts_of rfl (.inl rfl) (.inl rfl)) (pgs_cons (pg_name (i := 7) nd_counts_of rfl (.inl rfl) (.inl rfl)) pgs_nil)))) (pss_cons (ps_set (i := 2) nd_counts_of rfl (Or.inl rfl) (pc cplus (⟨rfl, rfl, rfl, rfl, rfl⟩ : At _ T) hr (by decide) rfl (pa_cons (pv 2) (pa_cons (pc cadded (⟨rfl, rfl, rfl, rfl, rfl⟩ : At _ T) hr (by decide) rfl (pa_cons (pv 0) (pa_cons (pv 5) (pa_cons (pv 4) (pa_cons (pv 6) (pa_cons (pv 7) pa_nil)))))) pa_nil))))
      (pss_one (ps_set (i := 4) nd_counts_of rfl (Or.inl rfl) (pv 5)))))
      (pss_one (ps_ret (pv 2)))))), ?_⟩
  rintro ⟨sc, x, y⟩ Fm D eb ⟨hgr, hz⟩ hR -
  have hsz := size_range sc
  show Tr Fm [some (sh (qSc CS) sc), some (sh qAl (x, y)), none, none, none, none, none, none] _ _
  refine tr_asgN (en_zeros (n := sc.size) (ev_sizeD (ev_var rfl)) (by omega)) ?_
  rintro _ rfl
  refine tr_share (i := 2) rfl (tr_asg ev_int ?_)
  rintro _ rfl
  refine tr_forS (S := List Int × Int) (ei_z3 src_list src_word src_word (ev_call1 (p := (· = kindsF (x, y))) (ev_var rfl) (by rintro _ rfl; exact ⟨(x, y), rfl, hz, fun _ h => h⟩)) (ev_ixP1 (p3 := (· = x)) (ev_var rfl) (by rintro _ rfl; rfl)) (ev_ixP2 (p3 := (· = y)) (ev_var rfl) (by rintro _ rfl; rfl)) tg_trip)
    (fun xs i st => st = (xs.take i).foldl (stepF sc) (List.replicate sc.size.toNat 0, 0)) (fun st => [some (sh (qSc CS) sc), some (sh qAl (x, y)), some (sh (rL qI) st.1), none, some (sh qI st.2), none, none, none]) ?_ ?_ ?_
  · rintro xs -
    exact ⟨_, rfl, (by repeat (first | exact lss_nil | apply lss_some | apply lss_none))⟩
  · rintro xs - B i c hc st hst
    show Tr (Fm.at B) [some (sh (qSc CS) sc), some (sh qAl (x, y)), some (sh (rL qI) st.1), none, some (sh qI st.2), some (sh qI c.1), some (sh qC c.2.1), some (sh qC c.2.2)] _ _
    have hl : st.1.length = sc.size.toNat := by rw [hst]; exact fold_len sc _ _ (by simp)
    refine tr_asg (p := (· = zw (· + ·) st.1 (addedF sc c.1 st.2 c.2.1 c.2.2))) (ev_call2 (r2 := rL qI) (p2 := (· = addedF sc c.1 st.2 c.2.1 c.2.2)) (ev_var rfl) (ev_call5 (ev_var rfl) (ev_var rfl) (ev_var rfl) (ev_var rfl) (ev_var rfl) ?_) ?_) ?_
    · rintro _ _ _ _ _ rfl rfl rfl rfl rfl; exact ⟨(_, _, _, _, _), rfl, hgr, fun _ h => h⟩
    · rintro _ _ rfl rfl; exact ⟨(_, _), rfl, by show List.length st.1 ≤ 1000; omega, fun _ h => h⟩
    · rintro _ rfl
      refine tr_last (tr_asg (ev_var rfl) ?_)
      rintro _ rfl
      exact tr_nx rfl (stepF sc st c) (by rw [take_succ' hc, List.foldl_append, hst]; rfl) (by repeat (first | exact lss_nil | apply lss_some | apply lss_none))
  · rintro xs ⟨ks, x', y', ek, ex, ey, el⟩ st hst
    refine tr_ret (ev_var rfl) hR fun z e => ?_
    rw [e, hst, List.take_length, el, ek, ex, ey]
    rfl

abbrev s_bare : Stmt := topS 8
abbrev N_bare : List Str := ["row"]
theorem sc_bare : FnScope N_bare ["row"] (defScope s_bare) := ⟨rfl, rfl, rfl, by decide +kernel, rfl, by decide +kernel, by decide +kernel⟩
theorem nd_bare : N_bare.Nodup := by decide +kernel
theorem bd_bare (kV doc pm : Value) (an : Option Addr) (cdv ct : Value) (us : List Value) (hl : us.length = List.length (α := Str) ["row"]) : bindArgs (PySem.W.fnOf "_bare" "_bare" (defArgs s_bare) (defBody s_bare) (defScope s_bare) .none kV doc pm an cdv ct) ⟨us, []⟩ = pure (List.zip (α := Str) ["row"] us) := match us, hl with | [_], _ => rfl

theorem repl_dash : ∀ l : List Nat, StrLaws.replL [45] [] l = l.filter (fun c => !decide (c = 45))
  | [] => StrLaws.replL_nil
  | c :: r => by
    by_cases h : c = 45
    · subst h
      rw [StrLaws.replL_hit (by simp) (by rfl)]
      show [] ++ StrLaws.replL [45] [] (List.drop 1 (45 :: r)) = _
      rw [List.drop_one, List.tail_cons, repl_dash r]; simp
    · rw [StrLaws.replL_miss (fun z => h (by simpa using z)), repl_dash r]; simp [h]
def bareF (l : List Nat) : List Nat := l.filter fun c => !decide (c = 45)
end
end Rf
/-! WkC: bare rows, a scheme made. -/
namespace Rf
open PySem PySem.Spec PyProof.Rows L2

section
variable {T : Tx} {CS CR aS : Addr} {β : Option Addr} {Γ : EnvA} {te ta : TE} {K : PySem.W.Frag}
abbrev spBare : Sp := spOf (ι := List Nat) (fun _ => none) (fun g => [sh qW g]) (fun g => g.length ≤ 1000) qW (fun g z => z = bareF g)
theorem ok_bare (D : Dn T "_bare" s_bare) : Cl T 1 "_bare" spBare := by
  obtain ⟨f, fd, G, hm⟩ := D.ex
  obtain ⟨oc, od, dV, kV, doc, pm, an, cdv, ct, osl, rfl, lk, hcd, hd, hk⟩ := G.ex
  refine ⟨f, _, ["row"], fn_ofT lk hcd sc_bare (by decide +kernel) (by decide) (fun vs H Q E h => ?_) (fun A outer s H vs Q E hr h => ?_), hm, G.kp, G.bindsN bd_bare⟩
  · obtain ⟨g, A, _, _, he, _⟩ := h
    exact (Paired.length he).trans rfl
  · obtain ⟨g, A, hs, _, he, hp, hq⟩ := h
    refine ⟨_, CwR.psst_one (CwR.pst_ret (CwR.pet_replC (pv 0))), ?_⟩
    cases he with
    | cons h1 h2 =>
      cases h2
      obtain ⟨h1, _⟩ := h1
      cases (show _ = V.str _ from h1)
      have hp : g.length ≤ 1000 := hp
      refine ⟨_, rfl, _, rfl, ?_, ?_⟩
      · rw [word_len]
        show g.length + (g.length + 1) * 0 ≤ _
        omega
      · have e : Txt.replace (⟨g.toArray⟩ : Str) "-" "" = ⟨(bareF g).toArray⟩ := by
          have e1 : ("-" : Str).cps.toList = [45] := rfl
          have e2 : ("" : Str).cps.toList = [] := rfl
          have q := StrLaws.replace_list (x := (⟨g.toArray⟩ : Str)) (y := "-") (z := "") (by decide)
          rw [e1, e2, repl_dash] at q
          have : (Txt.replace (⟨g.toArray⟩ : Str) "-" "").cps = (bareF g).toArray := by
            apply Array.toList_inj.mp
            rw [q]; rfl
          cases hh : Txt.replace (⟨g.toArray⟩ : Str) "-" "" with
          | mk c => rw [hh] at this; rw [show c = _ from this]
        refine hq _ (bareF g) A H (Grow.refl hs) rfl ?_
        show V.str _ = V.str _
        rw [e]
abbrev s_sequences_of : Stmt := topS 9
abbrev N_sequences_of : List Str := ["alignment"]
theorem sc_sequences_of : FnScope N_sequences_of ["alignment"] (defScope s_sequences_of) := ⟨rfl, rfl, rfl, by decide +kernel, rfl, by decide +kernel, by decide +kernel⟩
theorem nd_sequences_of : N_sequences_of.Nodup := by decide +kernel
theorem bd_sequences_of (kV doc pm : Value) (an : Option Addr) (cdv ct : Value) (us : List Value) (hl : us.length = List.length (α := Str) ["alignment"]) : bindArgs (PySem.W.fnOf "sequences_of" "sequences_of" (defArgs s_sequences_of) (defBody s_sequences_of) (defScope s_sequences_of) .none kV doc pm an cdv ct) ⟨us, []⟩ = pure (List.zip (α := Str) ["alignment"] us) := match us, hl with | [_], _ => rfl

abbrev spSeqs : Sp := spOf (ι := List Nat × List Nat) (fun _ => none) (fun g => [sh qAl g]) (fun g => g.1.length ≤ 1000 ∧ g.2.length ≤ 1000) qAl (fun g z => z = (bareF g.1, bareF g.2))
theorem ok_sequences_of (c_bare : Cl T 1 "_bare" spBare) (D : Dn T "sequences_of" s_sequences_of) : Cl T 2 "sequences_of" spSeqs := by
  refine cl_def D sc_sequences_of bd_sequences_of (fun _ => rfl) fun f cdv A outer s H E hr => ⟨_, (pss_one (ps_ret (pe_tup (pa_cons (pc c_bare (⟨rfl, rfl, rfl, rfl, rfl⟩ : At _ T) hr (by decide) rfl (pa_cons (ixT (⟨rfl, rfl, rfl, rfl, rfl⟩ : At _ T) (pv 0) pe_int) pa_nil)) (pa_cons (pc c_bare (⟨rfl, rfl, rfl, rfl, rfl⟩ : At _ T) hr (by decide) rfl (pa_cons (ixT (⟨rfl, rfl, rfl, rfl, rfl⟩ : At _ T) (pv 0) pe_int) pa_nil)) pa_nil))))), ?_⟩
  rintro ⟨x, y⟩ Fm D eb ⟨h1, h2⟩ hR -
  refine tr_ret (ev_tup2 (p1 := (· = bareF x)) (p2 := (· = bareF y)) (ev_call1 (r1 := qW) (p1 := (· = x)) (ev_ixP1 (ev_var rfl) (by rintro _ rfl; rfl)) ?_) fun _ _ => ev_call1 (r1 := qW) (p1 := (· = y)) (ev_ixP2 (ev_var rfl) (by rintro _ rfl; rfl)) ?_) hR ?_
  · rintro _ rfl; exact ⟨_, rfl, h1, fun _ h => h⟩
  · rintro _ rfl; exact ⟨_, rfl, h2, fun _ h => h⟩
  · rintro ⟨a, b⟩ ⟨e1, e2⟩
    exact Prod.ext e1 e2

def goodG : List (List (List Nat)) := [[], [[97, 98]], [[97, 98], [99, 100]], [[97, 99, 100]]]
def toS (l : List Nat) : Str := ⟨l.toArray⟩
theorem words_toS {A : Hp} : ∀ {vs : List V} {g : List (List Nat)}, Paired (qW A) vs g → Paired (qS A) vs (g.map toS)
  | _, _, .nil => .nil
  | _, _, .cons h t => .cons h (words_toS t)
def wholeS (g : List (List Nat)) : Str := Txt.join "" (g.map toS)
theorem good_facts : ∀ g ∈ goodG, g.length ≤ 4 ∧ (g.all fun x => decide ((2 : Int) ≤ x.length)) = true ∧ ((g.map toS).map (·.length)).sum + (g.map toS).length * ("" : Str).length ≤ 16777216 ∧ (wholeS g).cps.toList.length ≤ 4 ∧
    ((wholeS g).cps.toList.all fun c => decide (c ∈ ("abcdefghijklmnopqrstuvwxyz" : Str).cps.toList) && decide (Txt.count (wholeS g) ⟨#[c]⟩ = 1)) = true := by decide +kernel
abbrev s_are_groups : Stmt := topS 13
abbrev N_are_groups : List Str := ["groups", "group", "whole", "letter"]
theorem sc_are_groups : FnScope N_are_groups ["groups"] (defScope s_are_groups) := ⟨rfl, rfl, rfl, by decide +kernel, rfl, by decide +kernel, by decide +kernel⟩
theorem nd_are_groups : N_are_groups.Nodup := by decide +kernel
theorem bd_are_groups (kV doc pm : Value) (an : Option Addr) (cdv ct : Value) (us : List Value) (hl : us.length = List.length (α := Str) ["groups"]) : bindArgs (PySem.W.fnOf "_are_groups" "_are_groups" (defArgs s_are_groups) (defBody s_are_groups) (defScope s_are_groups) .none kV doc pm an cdv ct) ⟨us, []⟩ = pure (List.zip (α := Str) ["groups"] us) := match us, hl with | [_], _ => rfl

abbrev spAreGroups : Sp := spOf (ι := List (List Nat)) (fun _ => none) (fun g => [sh (rL qW) g]) (fun g => g ∈ goodG) qB (fun g z => z = true)
theorem ok_are_groups (F : TF T CS CR aS) (D : Dn T "_are_groups" s_are_groups) : Cl T 1 "_are_groups" spAreGroups := by
  refine cl_def D sc_are_groups bd_are_groups (fun _ => rfl) fun f cdv A outer s H E hr => ⟨_, (pss_cons (ps_if (PW.pt (pw_or (pt_not (pt_val (pb (⟨rfl, rfl, rfl, rfl, rfl⟩ : At _ T) (cIsi (⟨rfl, rfl, rfl, rfl, rfl⟩ : At _ T)) rfl F.isinstance boot_isinstance (pa_cons (pv 0) (pa_cons (pty (⟨rfl, rfl, rfl, rfl, rfl⟩ : At _ T) rfl F.list boot_list) pa_nil))))) (pw_or1 (pt_cmpR op_gt (pb (⟨rfl, rfl, rfl, rfl, rfl⟩ : At _ T) (cLen (⟨rfl, rfl, rfl, rfl, rfl⟩ : At _ T)) rfl F.len boot_len (pa_cons (pv 0) pa_nil)) (pgl (⟨rfl, rfl, rfl, rfl, rfl⟩ : At _ T) rfl F.gMOST_GROUPS) (nomark _))))) (pss_one (ps_ret pe_bl)) pss_nil)
      (pss_cons (ps_if (pt_not (pt_val (pb (⟨rfl, rfl, rfl, rfl, rfl⟩ : At _ T) (cAll (⟨rfl, rfl, rfl, rfl, rfl⟩ : At _ T) rfl) rfl F.all boot_all (pa_cons (pe_lc (own := [("group", 1)]) rfl nd_are_groups (piL (⟨rfl, rfl, rfl, rfl, rfl⟩ : At _ T) (pv 0)) (blkOk_by (own := [("group", 1)]) (N := N_are_groups) (sc := defScope s_are_groups) (by decide +kernel)) (fun _ _ _ _ _ => (pg_name (i := 1) nd_are_groups rfl (.inl rfl) (.inr rfl))) (fun _ _ _ _ _ => pts_nil) (fun _ _ _ _ _ => (pe_and (pb (⟨rfl, rfl, rfl, rfl, rfl⟩ : At _ T) (cIsi (⟨rfl, rfl, rfl, rfl, rfl⟩ : At _ T)) rfl F.isinstance boot_isinstance (pa_cons (pv 1) (pa_cons (pty (⟨rfl, rfl, rfl, rfl, rfl⟩ : At _ T) rfl F.str boot_str) pa_nil))) (pe_one (pe_cmpR op_ge (pb (⟨rfl, rfl, rfl, rfl, rfl⟩ : At _ T) cLenS rfl F.len boot_len (pa_cons (pv 1) pa_nil)) pe_int (nomark _)))))) pa_nil)))) (pss_one (ps_ret pe_bl)) pss_nil)
      (pss_cons (ps_set (i := 2) nd_are_groups rfl (Or.inr rfl) (pmJoin (⟨rfl, rfl, rfl, rfl, rfl⟩ : At _ T) pe_str (pa_cons (pv 0) pa_nil)))
      (pss_one (ps_ret (pb (⟨rfl, rfl, rfl, rfl, rfl⟩ : At _ T) (cAll (⟨rfl, rfl, rfl, rfl, rfl⟩ : At _ T) rfl) rfl F.all boot_all (pa_cons (pe_lc (own := [("letter", 3)]) rfl nd_are_groups (piS (pv 2)) (blkOk_by (own := [("letter", 3)]) (N := N_are_groups) (sc := defScope s_are_groups) (by decide +kernel)) (fun _ _ _ _ _ => (pg_name (i := 3) nd_are_groups rfl (.inl rfl) (.inr rfl))) (fun _ _ _ _ _ => pts_nil) (fun _ _ _ _ _ => (pe_and (pe_cmpR op_inS (pv 3) (pgl (⟨rfl, rfl, rfl, rfl, rfl⟩ : At _ T) rfl F.gLETTERS) rfl) (pe_one (pe_cmpR op_eq (pmCount (⟨rfl, rfl, rfl, rfl, rfl⟩ : At _ T) (pv 2) (pa_cons (pv 3) pa_nil)) pe_int (nomark _)))))) pa_nil))))))), ?_⟩
  rintro g Fm D eb hg hR -
  obtain ⟨g1, g2, g3, g4, g5⟩ := good_facts g hg
  show Tr Fm [some (sh (rL qW) g), none, none, none] _ _
  refine tr_if (q := (· = (!true || decide ((4 : Int) < g.length)))) (et_orD (et_notD (et_B (ev_isiL (ev_var rfl)))) fun _ => et_test (ev_b0D (ev_lenL (pi := (· = (g.length : Int))) (ev_var rfl) (by rintro _ rfl; rfl)) ev_int)) (fun hb => ?_) (fun _ => tr_nil ?_)
  · have : decide ((4 : Int) < g.length) = false := decide_eq_false (by omega)
    rw [this] at hb; cases hb
  refine tr_if (q := (· = !true)) (et_notD (et_B (ev_all (en_lc (b := fun _ => true) (q := fun (x : List Nat) (z : Bool) => z = decide ((2 : Int) ≤ x.length)) (ei_list (ev_var (r := rL qW) rfl) tg_name) (by decide) ?_ (fun _ _ _ _ => et_yes) ?_).ev ?_))) (fun hb => by cases hb) (fun _ => tr_nil ?_)
  · rintro _ rfl; omega
  · intro l hl x hx _
    rw [hl] at hx
    refine (ev_andVD (b := decide ((2 : Int) ≤ x.length)) (ev_isiW (ev_var rfl)) fun _ => ev_b0D (ev_lenW (pi := (· = (x.length : Int))) (ev_var rfl) ?_) ev_int).imp fun _ e => by rw [e]; rfl
    intro l' hl'
    rw [hl']
    refine ⟨?_, rfl⟩
    have : g.all (fun x => decide (x.length ≤ 3)) = true := by
      have : ∀ g ∈ goodG, g.all (fun x => decide (x.length ≤ 3)) = true := by decide
      exact this g hg
    have := List.all_eq_true.mp this x hx
    have : x.length ≤ 3 := by simpa using this
    omega
  · rintro z ⟨_, rfl, h⟩
    rw [filter_true'] at h
    rw [paired_eq h, List.all_map]
    exact g2
  refine tr_asg (r := qS) (p := (· = wholeS g)) (ev_join (p := (· = g.map toS)) ev_str ((ev_var (r := rL qW) (x := g) rfl).as ?_) ?_) ?_
  · rintro _ rfl
    refine ⟨_, rfl, fun A v ⟨l, vs, e, h1, h2⟩ => ⟨l, vs, e, h1, ?_⟩⟩
    exact words_toS h2
  · rintro _ rfl; exact ⟨g3, rfl⟩
  rintro _ rfl
  refine tr_ret (ev_all (pb := (· = true)) (en_lc (b := fun _ => true) (q := fun (x : Str) (z : Bool) => ∃ c, x = ⟨#[c]⟩ ∧ z = (decide (c ∈ ("abcdefghijklmnopqrstuvwxyz" : Str).cps.toList) && decide (Txt.count (wholeS g) ⟨#[c]⟩ = 1))) (ei_str (ev_var (r := qS) rfl) tg_name) (by decide) ?_ (fun _ _ _ _ => et_yes) ?_).ev ?_) hR (fun _ e => e)
  · rintro _ ⟨_, rfl, rfl⟩
    rw [List.length_map]; omega
  · rintro _ ⟨_, rfl, rfl⟩ x hx _
    obtain ⟨c, hc, rfl⟩ := List.mem_map.mp hx
    refine (ev_andVD (a := decide (c ∈ ("abcdefghijklmnopqrstuvwxyz" : Str).cps.toList)) (b := decide (Txt.count (wholeS g) ⟨#[c]⟩ = 1)) (ev_inS (ev_var (r := qS) rfl) (ev_c (x := ("abcdefghijklmnopqrstuvwxyz" : Str)) fun _ => rfl) ?_) fun _ => ev_eqID (ev_count (pi := (· = Txt.count (wholeS g) ⟨#[c]⟩)) (ev_var (r := qS) rfl) (ev_var (r := qS) rfl) ?_) ev_int).imp fun z e => ⟨c, rfl, e⟩
    · rintro _ _ rfl rfl; exact ⟨c, rfl, rfl⟩
    · rintro _ _ rfl rfl; rfl
  · rintro z ⟨_, ⟨_, rfl, rfl⟩, h⟩
    rw [filter_true'] at h
    have gen : ∀ (l : List Nat) (z : List Bool), Paired (fun (x : Str) (z : Bool) => ∃ c, x = ⟨#[c]⟩ ∧ z = (decide (c ∈ ("abcdefghijklmnopqrstuvwxyz" : Str).cps.toList) && decide (Txt.count (wholeS g) ⟨#[c]⟩ = 1))) (l.map fun c => ⟨#[c]⟩) z →
        z = l.map fun c => decide (c ∈ ("abcdefghijklmnopqrstuvwxyz" : Str).cps.toList) && decide (Txt.count (wholeS g) ⟨#[c]⟩ = 1) := by
      intro l
      induction l with
      | nil => intro z h; cases h; rfl
      | cons a l ih =>
        intro z h
        rw [List.map_cons] at h
        cases h with
        | cons h1 h2 =>
          obtain ⟨c, e, rfl⟩ := h1
          rw [ih _ h2]
          have : a = c := sign_eq.mp e
          rw [this]; rfl
    rw [gen _ _ h, List.all_map]
    exact g5
abbrev s_Scheme___init__ : Stmt := inS (topS 14) 0
abbrev N_Scheme___init__ : List Str := ["self", "groups", "gaps", "sides", "good"]
theorem sc_Scheme___init__ : FnScope N_Scheme___init__ ["self", "groups", "gaps", "sides"] (defScope s_Scheme___init__) := ⟨rfl, rfl, rfl, by decide +kernel, rfl, by decide +kernel, by decide +kernel⟩
theorem nd_Scheme___init__ : N_Scheme___init__.Nodup := by decide +kernel
theorem bd_Scheme___init__ (kV doc pm : Value) (an : Option Addr) (cdv ct : Value) (us : List Value) (hl : us.length = List.length (α := Str) ["self", "groups", "gaps", "sides"]) : bindArgs (PySem.W.fnOf "__init__" "Scheme.__init__" (defArgs s_Scheme___init__) (defBody s_Scheme___init__) (defScope s_Scheme___init__) .none kV doc pm an cdv ct) ⟨us, []⟩ = pure (List.zip (α := Str) ["self", "groups", "gaps", "sides"] us) := match us, hl with | [_, _, _, _], _ => rfl

def okS (g : List (List Nat) × Bool × Bool) : Prop := g.1 ∈ goodG ∧ ¬ ((0 : Int) < g.1.length ∧ g.2.1 = true ∧ g.2.2 = true)
def phiS (g : List (List Nat) × Bool × Bool) (A : Hp) (fs : List (Str × V)) : Prop := ∃ v1 v2 v3, fs = ([("groups", v1), ("gaps", v2), ("sides", v3)] : List (Str × V)) ∧ rL qW A v1 g.1 ∧ qB A v2 g.2.1 ∧ qB A v3 g.2.2
theorem phiS_le {g : List (List Nat) × Bool × Bool} {A B : Hp} {fs : List (Str × V)} (l : Le A B) (h : phiS g A fs) : phiS g B fs := let ⟨v1, v2, v3, h1, h2, h3, h4⟩ := h; ⟨v1, v2, v3, h1, Mono.le l h2, h3, h4⟩
abbrev spScheme (CS : Addr) : Sp := spIn CS (ι := List (List Nat) × Bool × Bool) (fun g => [sh (rL qW) g.1, sh qB g.2.1, sh qB g.2.2]) okS phiS
def phi1 (g : List (List Nat) × Bool × Bool) (A : Hp) (fs : List (Str × V)) : Prop := ∃ v1, fs = ([("groups", v1)] : List (Str × V)) ∧ rL qW A v1 g.1
def phi2 (g : List (List Nat) × Bool × Bool) (A : Hp) (fs : List (Str × V)) : Prop := ∃ v1 v2, fs = ([("groups", v1), ("gaps", v2)] : List (Str × V)) ∧ rL qW A v1 g.1 ∧ qB A v2 g.2.1
theorem ok_Scheme {f : Addr} {fd : FuncData} (F : TF T CS CR aS) (c_are_groups : Cl T 1 "_are_groups" spAreGroups) (G : FunD T.K "__init__" "Scheme.__init__" (defArgs s_Scheme___init__) (defBody s_Scheme___init__) (defScope s_Scheme___init__) [] [] f fd) (M : Mk T.K CS f) (hm : T.mg "Scheme" = some (.ref CS)) : Mc T 2 "Scheme" CS (spScheme CS) := by
  refine mc_def G M hm sc_Scheme___init__ bd_Scheme___init__ (fun _ => rfl) (m := fun _ _ _ _ l h => phiS_le l h) (fun _ _ _ _ h => h) fun f cdv A outer s H E hr => ⟨_, (pss_cons (ps_set (i := 4) nd_Scheme___init__ rfl (Or.inl rfl) (pe_and (pc c_are_groups (⟨rfl, rfl, rfl, rfl, rfl⟩ : At _ T) hr (by decide) rfl (pa_cons (pv 1) pa_nil)) (pe_and (pb (⟨rfl, rfl, rfl, rfl, rfl⟩ : At _ T) (cIsi (⟨rfl, rfl, rfl, rfl, rfl⟩ : At _ T)) rfl F.isinstance boot_isinstance (pa_cons (pv 2) (pa_cons (pty (⟨rfl, rfl, rfl, rfl, rfl⟩ : At _ T) rfl F.bool boot_bool) pa_nil))) (pe_one (pb (⟨rfl, rfl, rfl, rfl, rfl⟩ : At _ T) (cIsi (⟨rfl, rfl, rfl, rfl, rfl⟩ : At _ T)) rfl F.isinstance boot_isinstance (pa_cons (pv 3) (pa_cons (pty (⟨rfl, rfl, rfl, rfl, rfl⟩ : At _ T) rfl F.bool boot_bool) pa_nil)))))))
      (pss_cons (ps_if (PW.pt (pw_or (pt_not (pt_val (pv 4))) (pw_or1 (PW.pt (pw_and (pt_cmpR op_gt (pb (⟨rfl, rfl, rfl, rfl, rfl⟩ : At _ T) (cLen (⟨rfl, rfl, rfl, rfl, rfl⟩ : At _ T)) rfl F.len boot_len (pa_cons (pv 1) pa_nil)) pe_int (nomark _)) (pw_and (pt_val (pv 2)) (pw_and1 (pt_val (pv 3))))))))) (pss_one ps_never) pss_nil)
      (pss_cons (psfld (⟨rfl, rfl, rfl, rfl, rfl⟩ : At _ T) (pv 0) (pbT (⟨rfl, rfl, rfl, rfl, rfl⟩ : At _ T) (cList (⟨rfl, rfl, rfl, rfl, rfl⟩ : At _ T)) rfl F.list boot_list (pa_cons (pv 1) pa_nil)) rfl)
      (pss_cons (psfld (⟨rfl, rfl, rfl, rfl, rfl⟩ : At _ T) (pv 0) (pv 2) rfl)
      (pss_one (psfld (⟨rfl, rfl, rfl, rfl, rfl⟩ : At _ T) (pv 0) (pv 3) rfl)))))), ?_⟩
  rintro ⟨g, p, q⟩ x Fm D eb ⟨hg, hn⟩ hR
  refine tr_asg (p := (· = true)) (ev_andV (pb := (· = true)) (ev_call1 (ev_var rfl) ?_) (fun z => by cases z) fun _ => ev_andV (pb := (· = true)) (ev_isiB (ev_var rfl)) (fun z => by cases z) fun _ => ev_isiB (ev_var rfl)) ?_
  · rintro _ rfl; exact ⟨_, rfl, hg, fun _ h => h⟩
  rintro _ rfl
  refine tr_if (q := (· = false)) (et_or (pb := (· = false)) (et_not (pb := (· = true)) (et_B (ev_var rfl)) (by rintro _ rfl; rfl)) (fun z => by cases z) fun _ => (et_andD (a := decide ((0 : Int) < g.length)) (b := p && q) (et_test (ev_b0D (ev_lenL (pi := (· = (g.length : Int))) (ev_var rfl) (by rintro _ rfl; rfl)) ev_int)) fun _ => et_andD (a := p) (et_B (ev_var rfl)) fun _ => et_B (ev_var (r := qB) (x := q) rfl)).imp ?_) (fun hb => by cases hb) (fun _ => tr_nil ?_)
  · rintro _ rfl
    by_cases h0 : (0 : Int) < g.length
    · rw [decide_eq_true h0]
      cases p with
      | false => rfl
      | true =>
        cases q with
        | false => rfl
        | true => exact (hn ⟨h0, rfl, rfl⟩).elim
    · rw [decide_eq_false h0]; rfl
  refine tr_setF (i := 0) (r := rL qW) (φ' := phi1 (g, p, q)) (m' := fun _ _ _ l h => let ⟨v1, h1, h2⟩ := h; ⟨v1, h1, Mono.le l h2⟩) F.clS F.naS1 rfl (en_list (p := (· = g)) (ev_var rfl)).ev (fun _ _ h => by rw [h]; decide) (fun z e A fs v h1 h2 => ?_) fun _ _ => ?_
  · rw [h1]; subst e; exact ⟨v, rfl, h2⟩
  refine tr_setF (i := 0) (r := qB) (φ' := phi2 (g, p, q)) (m' := fun _ _ _ l h => let ⟨v1, v2, h1, h2, h3⟩ := h; ⟨v1, v2, h1, Mono.le l h2, h3⟩) F.clS F.naS2 rfl (ev_var rfl) (fun _ _ h => by obtain ⟨v1, h1, _⟩ := h; rw [h1]; show 1 < 1000; decide) (fun z e A fs v h1 h2 => ?_) fun _ _ => ?_
  · obtain ⟨v1, rfl, h4⟩ := h1; subst e; exact ⟨v1, v, rfl, h4, h2⟩
  refine tr_last (tr_setF (i := 0) (r := qB) (φ' := phiS (g, p, q)) (m' := fun _ _ _ l h => phiS_le l h) F.clS F.naS3 rfl (ev_var rfl) (fun _ _ h => by obtain ⟨v1, v2, h1, _⟩ := h; rw [h1]; show 2 < 1000; decide) (fun z e A fs v h1 h2 => ?_) fun _ _ => ?_)
  · obtain ⟨v1, v2, rfl, h4, h5⟩ := h1; subst e; exact ⟨v1, v2, v, rfl, h4, h5, h2⟩
  exact fun σ H' st => hR _ rfl σ H' st
end
end Rf
/-! WkD: nodes, moves. -/
namespace Rf
open PySem PySem.Spec PyProof.Rows L2

/-- a list or a tuple of whole numbers -/
def qSeq (K : PySem.W.Frag) : RP (List Int) := fun A v x => rL qI A v x ∨ qTI K A v x
instance (K : PySem.W.Frag) : Mono (qSeq K) := ⟨fun l h => h.imp (fun z => Mono.le l z) fun z => Mono.le l z⟩
theorem src_seq {P : Program} {w : World} {K : PySem.W.Frag} : SrcR P w K (qSeq K) qI id := fun A v x h => by
  rcases h with h | h
  · exact src_list A v x h
  · exact src_tup A v x h
def nodesF (n m : Nat) : List (List Int) := (List.range (n + 1)).flatMap fun i : Nat => (List.range (m + 1)).flatMap fun j : Nat => [[(i : Int), (j : Int), 0], [(i : Int), (j : Int), 1], [(i : Int), (j : Int), 2]]
abbrev qStep (K : PySem.W.Frag) : RP (Int × List Int × List Int) := qT3 qI (qTI K) (rL qI)
def movesF (sc : Sc) (f s : List Nat) (i j : Nat) (k : Int) : List (Int × List Int × List Int) :=
  (if i < f.length ∧ j < s.length then [((0 : Int), [(i : Int) + 1, (j : Int) + 1, 0], addedF sc 0 k (f.getD i 0) (s.getD j 0))] else []) ++
  ((if i < f.length then [((1 : Int), [(i : Int) + 1, (j : Int), 1], addedF sc 1 k (f.getD i 0) 45)] else []) ++
  (if j < s.length then [((2 : Int), [(i : Int), (j : Int) + 1, 2], addedF sc 2 k 45 (s.getD j 0))] else []))
theorem paired_len {α γ : Type} {F : α → γ → Prop} {l : List α} {ys : List γ} (h : Paired F l ys) : l.length = ys.length := Paired.length h
section
variable {T : Tx} {CS CR aS : Addr} {β : Option Addr} {Γ : EnvA} {te ta tb : TE} {K : PySem.W.Frag}
theorem ev_lenWD {l : List Nat} (h : Ev β ta Γ qW (· = l)) (hl : l.length ≤ 1000) : Ev β (tCB rLenStr (tCons ta tNil)) Γ qI (· = (l.length : Int)) := ev_lenW h (by rintro _ rfl; exact ⟨by omega, rfl⟩)
theorem ev_ixWD {l : List Nat} {i : Nat} (h : Ev β ta Γ qW (· = l)) (h2 : Ev β tb Γ qI (· = (i : Int))) (hl : l.length ≤ 1000) (hi : i < l.length) : Ev β (tOp rIxS ta tb) Γ qC (· = l.getD i 0) :=
  ev_ixW h h2 (by
    intro l' i' e1 e2
    subst e1 e2
    exact ⟨by omega, _, by omega, by show l'[i]? = _; exact List.getElem?_eq_getElem hi, by rw [List.getD_eq_getElem?_getD, List.getElem?_eq_getElem hi]; rfl⟩)
theorem map_range_cast (n : Int) : ((List.range n.toNat).map Int.ofNat)= (List.range n.toNat).map fun i : Nat => (i : Int) := rfl
abbrev s_nodes : Stmt := topS 24
abbrev N_nodes : List Str := ["first", "second", "found", "i", "j", "kind"]
theorem sc_nodes : FnScope N_nodes ["first", "second"] (defScope s_nodes) := ⟨rfl, rfl, rfl, by decide +kernel, rfl, by decide +kernel, by decide +kernel⟩
theorem nd_nodes : N_nodes.Nodup := by decide +kernel
theorem bd_nodes (kV doc pm : Value) (an : Option Addr) (cdv ct : Value) (us : List Value) (hl : us.length = List.length (α := Str) ["first", "second"]) : bindArgs (PySem.W.fnOf "nodes" "nodes" (defArgs s_nodes) (defBody s_nodes) (defScope s_nodes) .none kV doc pm an cdv ct) ⟨us, []⟩ = pure (List.zip (α := Str) ["first", "second"] us) := match us, hl with | [_, _], _ => rfl

abbrev spNodes (K : PySem.W.Frag) : Sp := spOf (ι := List Nat × List Nat) (fun _ => none) (fun g => [sh qW g.1, sh qW g.2]) (fun g => g.1.length ≤ 1000 ∧ g.2.length ≤ 1000) (rL (qTI K)) (fun g z => z = nodesF g.1.length g.2.length)
theorem flat_len {α γ : Type} (f : α → List γ) (c : Nat) (h : ∀ a, (f a).length = c) : ∀ l : List α, (l.flatMap f).length = l.length * c
  | [] => by simp
  | a :: l => by rw [List.flatMap_cons, List.length_append, h a, flat_len f c h l, List.length_cons, Nat.succ_mul, Nat.add_comm]
def rowF (i : Nat) (m : Nat) : List (List Int) := (List.range m).flatMap fun j : Nat => [[(i : Int), (j : Int), 0], [(i : Int), (j : Int), 1], [(i : Int), (j : Int), 2]]
theorem row_len (i m : Nat) : (rowF i m).length = m * 3 := by unfold rowF; rw [flat_len _ 3 (fun _ => rfl), List.length_range]
theorem take_range (n i : Nat) (h : i ≤ n) : (List.range n).take i = List.range i := by
  rw [List.take_range, Nat.min_eq_left h]
theorem range_at {n : Int} {i : Nat} {x : Int} {xs : List Int} (hx : xs = (List.range n.toNat).map Int.ofNat) (h : xs[i]? = some x) : x = (i : Int) ∧ i < n.toNat := by
  subst hx
  rw [List.getElem?_map] at h
  have hi : i < n.toNat := by
    cases z : (List.range n.toNat)[i]? with
    | none => rw [z] at h; cases h
    | some y => have := (List.getElem?_eq_some_iff.mp z).1; simpa using this
  rw [List.getElem?_range hi] at h
  exact ⟨(Option.some.inj h).symm, hi⟩
theorem ok_nodes (F : TF T CS CR aS) (D : Dn T "nodes" s_nodes) : Cl T 1 "nodes" (spNodes T.K) := by
  refine cl_def D sc_nodes bd_nodes (fun _ => rfl) fun f cdv A outer s H E hr => ⟨_, (pss_cons (ps_set (i := 2) nd_nodes rfl (Or.inl rfl) (pe_lst pa_nil))
      (pss_cons (ps_for PassesOwn.never rfl (piR (⟨rfl, rfl, rfl, rfl, rfl⟩ : At _ T) rfl F.range (pa_cons (pe_op op_add (pb (⟨rfl, rfl, rfl, rfl, rfl⟩ : At _ T) cLenS rfl F.len boot_len (pa_cons (pv 0) pa_nil)) pe_int) pa_nil)) (pg_name (i := 3) nd_nodes rfl (.inr rfl) (.inl rfl)) (pss_one (ps_for PassesOwn.never rfl (piR (⟨rfl, rfl, rfl, rfl, rfl⟩ : At _ T) rfl F.range (pa_cons (pe_op op_add (pb (⟨rfl, rfl, rfl, rfl, rfl⟩ : At _ T) cLenS rfl F.len boot_len (pa_cons (pv 1) pa_nil)) pe_int) pa_nil)) (pg_name (i := 4) nd_nodes rfl (.inr rfl) (.inl rfl)) (pss_one (ps_expr (pmExtend (⟨rfl, rfl, rfl, rfl, rfl⟩ : At _ T) (pv 2) (pa_cons (pe_lc (own := [("kind", 5)]) rfl nd_nodes (piT (⟨rfl, rfl, rfl, rfl, rfl⟩ : At _ T) (pe_tup (pa_cons (pgl (⟨rfl, rfl, rfl, rfl, rfl⟩ : At _ T) rfl F.gMATCH) (pa_cons (pgl (⟨rfl, rfl, rfl, rfl, rfl⟩ : At _ T) rfl F.gDELETION) (pa_cons (pgl (⟨rfl, rfl, rfl, rfl, rfl⟩ : At _ T) rfl F.gINSERTION) pa_nil))))) (blkOk_by (own := [("kind", 5)]) (N := N_nodes) (sc := defScope s_nodes) (by decide +kernel)) (fun _ _ _ _ _ => (pg_name (i := 5) nd_nodes rfl (.inl rfl) (.inr rfl))) (fun _ _ _ _ _ => pts_nil) (fun _ _ _ _ _ => (pe_tup (pa_cons (pv 3) (pa_cons (pv 4) (pa_cons (pv 5) pa_nil)))))) pa_nil)))))))
      (pss_one (ps_ret (pv 2))))), ?_⟩
  rintro ⟨x, y⟩ Fm D eb ⟨hx, hy⟩ hR -
  have hx : x.length ≤ 1000 := hx
  have hy : y.length ≤ 1000 := hy
  show Tr Fm [some (sh qW x), some (sh qW y), none, none, none, none] _ _
  refine tr_asgN (r := qTI T.K) en_nil ?_
  rintro _ rfl
  have bound : ∀ i j : Nat, i ≤ x.length → j ≤ y.length + 1 → (((List.range i).flatMap fun i => rowF i (y.length + 1)) ++ rowF i j).length ≤ 4000000 := by
    intro i j h1 h2
    rw [List.length_append, flat_len _ ((y.length + 1) * 3) (fun a => row_len a _), row_len, List.length_range]
    have : i * ((y.length + 1) * 3) ≤ 1000 * 3003 := Nat.mul_le_mul (by omega) (by omega)
    omega
  refine tr_forS (S := List (List Int)) (ei_range (pi := (· = (x.length : Int) + 1)) (ev_i0D (ev_lenWD (ev_var rfl) hx) ev_int) (by rintro _ rfl; omega) tg_name) (fun xs i l => l = (List.range i).flatMap fun i => rowF i (y.length + 1)) (fun l => [some (sh qW x), some (sh qW y), some (ownL (qTI T.K) l), none, none, none]) ?_ ?_ ?_
  · rintro xs -
    exact ⟨[], rfl, (by repeat (first | exact lss_nil | apply lss_some | apply lss_none))⟩
  · rintro xs ⟨n, hn, hxs⟩ B i c hc l hl
    obtain ⟨rfl, hi⟩ := range_at hxs hc
    have hi : i < x.length + 1 := by rw [hn] at hi; omega
    show Tr (Fm.at B) [some (sh qW x), some (sh qW y), some (ownL (qTI T.K) l), some (sh qI (i : Int)), none, none] _ _
    refine tr_last (tr_forS (S := List (List Int)) (ei_range (pi := (· = (y.length : Int) + 1)) (ev_i0D (ev_lenWD (ev_var rfl) hy) ev_int) (by rintro _ rfl; omega) tg_name) (fun xs j l' => l' = l ++ rowF i j) (fun l => [some (sh qW x), some (sh qW y), some (ownL (qTI T.K) l), some (sh qI (i : Int)), none, none]) ?_ ?_ ?_)
    · rintro xs -
      exact ⟨l, (List.append_nil l).symm, (by repeat (first | exact lss_nil | apply lss_some | apply lss_none))⟩
    · rintro xs ⟨n, hn, hxs⟩ B2 j c hc l' hl'
      obtain ⟨rfl, hj⟩ := range_at hxs hc
      have hj : j < y.length + 1 := by rw [hn] at hj; omega
      show Tr ((Fm.at B).at B2) [some (sh qW x), some (sh qW y), some (ownL (qTI T.K) l'), some (sh qI (i : Int)), some (sh qI (j : Int)), none] _ _
      have b1 : l'.length ≤ 4000000 := by rw [hl', hl]; exact bound i j (by omega) (by omega)
      refine tr_last (tr_extend (q := (· = [[(i : Int), (j : Int), 0], [(i : Int), (j : Int), 1], [(i : Int), (j : Int), 2]])) rfl ((en_lc (b := fun _ => true) (q := fun (k : Int) (z : List Int) => z = [(i : Int), (j : Int), k]) (ei_tupI (p := (· = [0, 1, 2])) (ev_tupI3 (ev_c fun _ => rfl) (ev_c fun _ => rfl) (ev_c fun _ => rfl)) tg_name) (by decide) ?_ (fun _ _ _ _ => et_yes) ?_).ev.imp ?_) ?_ ?_)
      · rintro _ rfl; decide
      · rintro _ rfl k _ _
        exact ev_tupI3 (ev_var rfl) (ev_var rfl) (ev_var rfl)
      · rintro z ⟨_, rfl, h⟩
        rw [filter_true'] at h
        rw [paired_eq h]; rfl
      · rintro ys rfl
        show _ + 3 ≤ 16777216
        omega
      · rintro ys rfl
        refine tr_nx rfl _ ?_ (by repeat (first | exact lss_nil | apply lss_some | apply lss_none))
        show _ = l ++ rowF i (j + 1)
        rw [hl', List.append_assoc]
        unfold rowF
        rw [List.range_succ, List.flatMap_append]
        rfl
    · rintro xs ⟨n, hn, hxs⟩ l' hl'
      refine tr_nx rfl _ ?_ (by repeat (first | exact lss_nil | apply lss_some | apply lss_none))
      show _ = (List.range (i + 1)).flatMap fun i => rowF i (y.length + 1)
      have e : xs.length = y.length + 1 := by rw [hxs, List.length_map, List.length_range, hn]; omega
      rw [hl', e, hl, List.range_succ, List.flatMap_append]
      simp
  · rintro xs ⟨n, hn, hxs⟩ l hl
    have e : xs.length = x.length + 1 := by rw [hxs, List.length_map, List.length_range, hn]; omega
    refine tr_share (i := 2) rfl (tr_ret (ev_var rfl) hR fun z ez => ?_)
    rw [ez, hl, e]
    rfl
abbrev s_is_end : Stmt := topS 25
abbrev N_is_end : List Str := ["first", "second", "node"]
theorem sc_is_end : FnScope N_is_end ["first", "second", "node"] (defScope s_is_end) := ⟨rfl, rfl, rfl, by decide +kernel, rfl, by decide +kernel, by decide +kernel⟩
theorem nd_is_end : N_is_end.Nodup := by decide +kernel
theorem bd_is_end (kV doc pm : Value) (an : Option Addr) (cdv ct : Value) (us : List Value) (hl : us.length = List.length (α := Str) ["first", "second", "node"]) : bindArgs (PySem.W.fnOf "is_end" "is_end" (defArgs s_is_end) (defBody s_is_end) (defScope s_is_end) .none kV doc pm an cdv ct) ⟨us, []⟩ = pure (List.zip (α := Str) ["first", "second", "node"] us) := match us, hl with | [_, _, _], _ => rfl

abbrev spIsEnd (K : PySem.W.Frag) : Sp := spOf (ι := List Nat × List Nat × Nat × Nat × Int) (fun _ => none) (fun g => [sh qW g.1, sh qW g.2.1, sh (qTI K) [(g.2.2.1 : Int), (g.2.2.2.1 : Int), g.2.2.2.2]]) (fun g => g.1.length ≤ 1000 ∧ g.2.1.length ≤ 1000) qB (fun g z => z = (decide (g.2.2.1 = g.1.length) && decide (g.2.2.2.1 = g.2.1.length)))
theorem ok_is_end (F : TF T CS CR aS) (D : Dn T "is_end" s_is_end) : Cl T 1 "is_end" (spIsEnd T.K) := by
  refine cl_def D sc_is_end bd_is_end (fun _ => rfl) fun f cdv A outer s H E hr => ⟨_, (pss_one (ps_ret (pe_and (pe_cmpR op_eq (ixT (⟨rfl, rfl, rfl, rfl, rfl⟩ : At _ T) (pv 2) pe_int) (pb (⟨rfl, rfl, rfl, rfl, rfl⟩ : At _ T) cLenS rfl F.len boot_len (pa_cons (pv 0) pa_nil)) (nomark _)) (pe_one (pe_cmpR op_eq (ixT (⟨rfl, rfl, rfl, rfl, rfl⟩ : At _ T) (pv 2) pe_int) (pb (⟨rfl, rfl, rfl, rfl, rfl⟩ : At _ T) cLenS rfl F.len boot_len (pa_cons (pv 1) pa_nil)) (nomark _)))))), ?_⟩
  rintro ⟨x, y, i, j, k⟩ Fm D eb ⟨hx, hy⟩ hR -
  have hx : x.length ≤ 1000 := hx
  have hy : y.length ≤ 1000 := hy
  show Tr Fm [some (sh qW x), some (sh qW y), some (sh (qTI T.K) [(i : Int), (j : Int), k])] _ _
  refine tr_ret (ev_andVD (a := decide (i = x.length)) (b := decide (j = y.length)) (ev_eqI (pi := (· = (i : Int))) (ev_ixTI (ev_var rfl) (fun _ _ => ev_int) ?_) (ev_lenWD (ev_var rfl) hx) ?_) fun _ => ev_eqI (pi := (· = (j : Int))) (ev_ixTI (ev_var rfl) (fun _ _ => ev_int) ?_) (ev_lenWD (ev_var rfl) hy) ?_) hR fun _ e => e
  · rintro _ _ rfl rfl; exact ⟨_, by decide, rfl, rfl⟩
  · rintro _ _ rfl rfl; exact decide_eq_decide.mpr (by omega)
  · rintro _ _ rfl rfl; exact ⟨_, by decide, rfl, rfl⟩
  · rintro _ _ rfl rfl; exact decide_eq_decide.mpr (by omega)
abbrev s_moves : Stmt := topS 26
abbrev N_moves : List Str := ["scheme", "first", "second", "node", "i", "j", "before", "found"]
theorem sc_moves : FnScope N_moves ["scheme", "first", "second", "node"] (defScope s_moves) := ⟨rfl, rfl, rfl, by decide +kernel, rfl, by decide +kernel, by decide +kernel⟩
theorem nd_moves : N_moves.Nodup := by decide +kernel
theorem bd_moves (kV doc pm : Value) (an : Option Addr) (cdv ct : Value) (us : List Value) (hl : us.length = List.length (α := Str) ["scheme", "first", "second", "node"]) : bindArgs (PySem.W.fnOf "moves" "moves" (defArgs s_moves) (defBody s_moves) (defScope s_moves) .none kV doc pm an cdv ct) ⟨us, []⟩ = pure (List.zip (α := Str) ["scheme", "first", "second", "node"] us) := match us, hl with | [_, _, _, _], _ => rfl

abbrev spMoves (CS : Addr) (K : PySem.W.Frag) : Sp := spOf (ι := Sc × List Nat × List Nat × Nat × Nat × Int) (fun _ => none) (fun g => [sh (qSc CS) g.1, sh qW g.2.1, sh qW g.2.2.1, sh (qTI K) [(g.2.2.2.1 : Int), (g.2.2.2.2.1 : Int), g.2.2.2.2.2]]) (fun g => g.1.groups.length ≤ 4 ∧ g.2.1.length ≤ 1000 ∧ g.2.2.1.length ≤ 1000)
  (rL (qStep K)) (fun g z => z = movesF g.1 g.2.1 g.2.2.1 g.2.2.2.1 g.2.2.2.2.1 g.2.2.2.2.2)
theorem ok_moves (F : TF T CS CR aS) (cadded : Cl T 2 "added" (spAdded CS)) (D : Dn T "moves" s_moves) : Cl T 3 "moves" (spMoves CS T.K) := by
  refine cl_def D sc_moves bd_moves (fun _ => rfl) fun f cdv A outer s H E hr => ⟨_, (pss_cons (ps_asg (pv 3) (pgT 3 (⟨rfl, rfl, rfl, rfl, rfl⟩ : At _ T) rfl (pgs_cons (pg_name (i := 4) nd_moves rfl (.inl rfl) (.inl rfl)) (pgs_cons (pg_name (i := 5) nd_moves rfl (.inl rfl) (.inl rfl)) (pgs_cons (pg_name (i := 6) nd_moves rfl (.inl rfl) (.inl rfl)) pgs_nil)))))
      (pss_cons (ps_set (i := 7) nd_moves rfl (Or.inl rfl) (pe_lst pa_nil))
      (Evl.pss_cut (ps_if (PW.pt (pw_and (pt_cmpR op_lt (pv 4) (pb (⟨rfl, rfl, rfl, rfl, rfl⟩ : At _ T) cLenS rfl F.len boot_len (pa_cons (pv 1) pa_nil)) (nomark _)) (pw_and1 (pt_cmpR op_lt (pv 5) (pb (⟨rfl, rfl, rfl, rfl, rfl⟩ : At _ T) cLenS rfl F.len boot_len (pa_cons (pv 2) pa_nil)) (nomark _))))) (pss_one (ps_expr (pmAppend (⟨rfl, rfl, rfl, rfl, rfl⟩ : At _ T) (pv 7) (pa_cons (pe_tup (pa_cons (pgl (⟨rfl, rfl, rfl, rfl, rfl⟩ : At _ T) rfl F.gMATCH) (pa_cons (pe_tup (pa_cons (pe_op op_add (pv 4) pe_int) (pa_cons (pe_op op_add (pv 5) pe_int) (pa_cons (pgl (⟨rfl, rfl, rfl, rfl, rfl⟩ : At _ T) rfl F.gMATCH) pa_nil)))) (pa_cons (pc cadded (⟨rfl, rfl, rfl, rfl, rfl⟩ : At _ T) hr (by decide) rfl (pa_cons (pv 0) (pa_cons (pgl (⟨rfl, rfl, rfl, rfl, rfl⟩ : At _ T) rfl F.gMATCH) (pa_cons (pv 6) (pa_cons (ixS (pv 1) (pv 4)) (pa_cons (ixS (pv 2) (pv 5)) pa_nil)))))) pa_nil)))) pa_nil)))) pss_nil)
      (Evl.pss_cut (ps_if (pt_cmpR op_lt (pv 4) (pb (⟨rfl, rfl, rfl, rfl, rfl⟩ : At _ T) cLenS rfl F.len boot_len (pa_cons (pv 1) pa_nil)) (nomark _)) (pss_one (ps_expr (pmAppend (⟨rfl, rfl, rfl, rfl, rfl⟩ : At _ T) (pv 7) (pa_cons (pe_tup (pa_cons (pgl (⟨rfl, rfl, rfl, rfl, rfl⟩ : At _ T) rfl F.gDELETION) (pa_cons (pe_tup (pa_cons (pe_op op_add (pv 4) pe_int) (pa_cons (pv 5) (pa_cons (pgl (⟨rfl, rfl, rfl, rfl, rfl⟩ : At _ T) rfl F.gDELETION) pa_nil)))) (pa_cons (pc cadded (⟨rfl, rfl, rfl, rfl, rfl⟩ : At _ T) hr (by decide) rfl (pa_cons (pv 0) (pa_cons (pgl (⟨rfl, rfl, rfl, rfl, rfl⟩ : At _ T) rfl F.gDELETION) (pa_cons (pv 6) (pa_cons (ixS (pv 1) (pv 4)) (pa_cons pe_str pa_nil)))))) pa_nil)))) pa_nil)))) pss_nil)
      (Evl.pss_cut (ps_if (pt_cmpR op_lt (pv 5) (pb (⟨rfl, rfl, rfl, rfl, rfl⟩ : At _ T) cLenS rfl F.len boot_len (pa_cons (pv 2) pa_nil)) (nomark _)) (pss_one (ps_expr (pmAppend (⟨rfl, rfl, rfl, rfl, rfl⟩ : At _ T) (pv 7) (pa_cons (pe_tup (pa_cons (pgl (⟨rfl, rfl, rfl, rfl, rfl⟩ : At _ T) rfl F.gINSERTION) (pa_cons (pe_tup (pa_cons (pv 4) (pa_cons (pe_op op_add (pv 5) pe_int) (pa_cons (pgl (⟨rfl, rfl, rfl, rfl, rfl⟩ : At _ T) rfl F.gINSERTION) pa_nil)))) (pa_cons (pc cadded (⟨rfl, rfl, rfl, rfl, rfl⟩ : At _ T) hr (by decide) rfl (pa_cons (pv 0) (pa_cons (pgl (⟨rfl, rfl, rfl, rfl, rfl⟩ : At _ T) rfl F.gINSERTION) (pa_cons (pv 6) (pa_cons pe_str (pa_cons (ixS (pv 2) (pv 5)) pa_nil)))))) pa_nil)))) pa_nil)))) pss_nil)
      (pss_one (ps_ret (pv 7)))))))), ?_⟩
  rintro ⟨sc, x, y, i, j, k⟩ Fm D eb ⟨hg, hx, hy⟩ hR -
  have hx : x.length ≤ 1000 := hx
  have hy : y.length ≤ 1000 := hy
  show Tr Fm [some (sh (qSc CS) sc), some (sh qW x), some (sh qW y), some (sh (qTI T.K) [(i : Int), (j : Int), k]), none, none, none, none] _ _
  refine tr_asgT (r := qTI3 T.K) (p := (· = ((i : Int), (j : Int), k))) ((ev_var (r := qTI T.K) rfl).as (by rintro _ rfl; exact ⟨_, rfl, fun _ _ h => h⟩)) tg_ti3 ?_
  rintro _ rfl
  refine tr_asgN (r := qStep T.K) en_nil ?_
  rintro _ rfl
  let G : List (Int × List Int × List Int) → EnvA := fun l => [some (sh (qSc CS) sc), some (sh qW x), some (sh qW y), some (sh (qTI T.K) [(i : Int), (j : Int), k]), some (sh qI (i : Int)), some (sh qI (j : Int)), some (sh qI k), some (ownL (qStep T.K) l)]
  show Tr Fm (G []) _ _
  have ci : ∀ {l : List (Int × List Int × List Int)}, Ev Fm.bx (tVar 4) (G l) qI (· = (i : Int)) := fun {l} => ev_var rfl
  have cj : ∀ {l : List (Int × List Int × List Int)}, Ev Fm.bx (tVar 5) (G l) qI (· = (j : Int)) := fun {l} => ev_var rfl
  have ck : ∀ {l : List (Int × List Int × List Int)}, Ev Fm.bx (tVar 6) (G l) qI (· = k) := fun {l} => ev_var rfl
  have cs : ∀ {l : List (Int × List Int × List Int)}, Ev Fm.bx (tVar 0) (G l) (qSc CS) (· = sc) := fun {l} => ev_var rfl
  have cx : ∀ {l : List (Int × List Int × List Int)}, Ev Fm.bx (tVar 1) (G l) qW (· = x) := fun {l} => ev_var rfl
  have cy : ∀ {l : List (Int × List Int × List Int)}, Ev Fm.bx (tVar 2) (G l) qW (· = y) := fun {l} => ev_var rfl
  have step : ∀ {l : List (Int × List Int × List Int)} {ta tb td te : TE} {E : XK} {n : Int} {a b : Nat} {p q : Int}, Ev Fm.bx ta (G l) qI (· = p) → Ev Fm.bx tb (G l) qI (· = q) → Ev Fm.bx td (G l) qC (· = a) → Ev Fm.bx te (G l) qC (· = b) →
      Ev Fm.bx (tTup (tCons (tC (.int n)) (tCons (tTup (tCons ta (tCons tb (tCons (tC (.int n)) tNil)))) (tCons (tCall (spAdded CS) [] E (tCons (tVar 0) (tCons (tC (.int n)) (tCons (tVar 6) (tCons td (tCons te tNil)))))) tNil)))) (G l) (qStep T.K) (· = (n, [p, q, n], addedF sc n k a b)) := fun {l ta tb td te E n a b p q} h1 h2 h3 h4 =>
    (ev_tup3 (p1 := (· = n)) (p2 := (· = [p, q, n])) (p3 := (· = addedF sc n k a b)) ev_int (ev_tupI3 h1 h2 ev_int) (ev_call5 cs ev_int ck h3 h4 (by rintro _ _ _ _ _ rfl rfl rfl rfl rfl; exact ⟨(_, _, _, _, _), rfl, hg, fun _ h => h⟩))).imp (by rintro ⟨z1, z2, z3⟩ ⟨h1, h2, h3⟩; exact Prod.ext h1 (Prod.ext h2 h3))
  refine tr_cutS (S := List (Int × List Int × List Int)) (fun l => l = (if i < x.length ∧ j < y.length then [((0 : Int), [(i : Int) + 1, (j : Int) + 1, 0], addedF sc 0 k (x.getD i 0) (y.getD j 0))] else [])) G ?_ ?_
  · refine tr_last (tr_if (q := (· = (decide ((i : Int) < x.length) && decide ((j : Int) < y.length)))) (et_andD (et_test (ev_b0D ci (ev_lenWD cx hx))) fun _ => et_test (ev_b0D cj (ev_lenWD cy hy))) (fun hb => ?_) (fun hb => ?_))
    · have h : i < x.length ∧ j < y.length := by
        have : (i : Int) < x.length ∧ (j : Int) < y.length := by simpa using hb.symm
        omega
      refine tr_append rfl (step (ev_i0D ci ev_int) (ev_i0D cj ev_int) (ev_ixWD cx ci hx h.1) (ev_ixWD cy cj hy h.2)) (by decide) ?_
      rintro _ rfl
      exact tr_nx rfl _ (by rw [if_pos h]) (by repeat (first | exact lss_nil | apply lss_some | apply lss_none))
    · have h : ¬ (i < x.length ∧ j < y.length) := by
        intro h
        rw [decide_eq_true (by omega), decide_eq_true (by omega)] at hb; cases hb
      exact tr_nil (tr_nx rfl _ (by rw [if_neg h]) (by repeat (first | exact lss_nil | apply lss_some | apply lss_none)))
  rintro l1 hl1
  have b1 : l1.length ≤ 1 := by rw [hl1]; split <;> simp
  refine tr_cutS (S := List (Int × List Int × List Int)) (fun l => l = l1 ++ (if i < x.length then [((1 : Int), [(i : Int) + 1, (j : Int), 1], addedF sc 1 k (x.getD i 0) 45)] else [])) G ?_ ?_
  · refine tr_last (tr_if (q := (· = decide ((i : Int) < x.length))) (et_test (ev_b0D ci (ev_lenWD cx hx))) (fun hb => ?_) (fun hb => ?_))
    · have h : i < x.length := by
        have : (i : Int) < x.length := by simpa using hb.symm
        omega
      refine tr_append rfl (step (ev_i0D ci ev_int) cj (ev_ixWD cx ci hx h) ev_sign) (by omega) ?_
      rintro _ rfl
      exact tr_nx rfl _ (by rw [if_pos h]) (by repeat (first | exact lss_nil | apply lss_some | apply lss_none))
    · have h : ¬ i < x.length := by
        intro h
        rw [decide_eq_true (by omega)] at hb; cases hb
      exact tr_nil (tr_nx rfl _ (by rw [if_neg h, List.append_nil]) (by repeat (first | exact lss_nil | apply lss_some | apply lss_none)))
  rintro l2 hl2
  have b2 : l2.length ≤ 2 := by rw [hl2, List.length_append]; split <;> simp <;> omega
  refine tr_cutS (S := List (Int × List Int × List Int)) (fun l => l = l2 ++ (if j < y.length then [((2 : Int), [(i : Int), (j : Int) + 1, 2], addedF sc 2 k 45 (y.getD j 0))] else [])) G ?_ ?_
  · refine tr_last (tr_if (q := (· = decide ((j : Int) < y.length))) (et_test (ev_b0D cj (ev_lenWD cy hy))) (fun hb => ?_) (fun hb => ?_))
    · have h : j < y.length := by
        have : (j : Int) < y.length := by simpa using hb.symm
        omega
      refine tr_append rfl (step ci (ev_i0D cj ev_int) ev_sign (ev_ixWD cy cj hy h)) (by omega) ?_
      rintro _ rfl
      exact tr_nx rfl _ (by rw [if_pos h]) (by repeat (first | exact lss_nil | apply lss_some | apply lss_none))
    · have h : ¬ j < y.length := by
        intro h
        rw [decide_eq_true (by omega)] at hb; cases hb
      exact tr_nil (tr_nx rfl _ (by rw [if_neg h, List.append_nil]) (by repeat (first | exact lss_nil | apply lss_some | apply lss_none)))
  rintro l3 hl3
  refine tr_share (i := 7) rfl (tr_ret (ev_var rfl) hR fun z ez => ?_)
  rw [ez, hl3, hl2, hl1]
  show _ = movesF sc x y i j k
  unfold movesF
  rw [List.append_assoc]
abbrev s_with : Stmt := topS 28
abbrev N_with : List Str := ["counts", "told", "a", "b"]
theorem sc_with : FnScope N_with ["counts", "told"] (defScope s_with) := ⟨rfl, rfl, rfl, by decide +kernel, rfl, by decide +kernel, by decide +kernel⟩
theorem nd_with : N_with.Nodup := by decide +kernel
theorem bd_with (kV doc pm : Value) (an : Option Addr) (cdv ct : Value) (us : List Value) (hl : us.length = List.length (α := Str) ["counts", "told"]) : bindArgs (PySem.W.fnOf "_with" "_with" (defArgs s_with) (defBody s_with) (defScope s_with) .none kV doc pm an cdv ct) ⟨us, []⟩ = pure (List.zip (α := Str) ["counts", "told"] us) := match us, hl with | [_, _], _ => rfl

abbrev spWith (K : PySem.W.Frag) : Sp := spOf (ι := List Int × List Int) (fun _ => none) (fun g => [sh (qTI K) g.1, sh (rL qI) g.2]) (fun g => g.1.length ≤ 1000) (qTI K) (fun g z => z = zw (· + ·) g.1 g.2)
theorem ok_with (F : TF T CS CR aS) (D : Dn T "_with" s_with) : Cl T 1 "_with" (spWith T.K) := by
  refine cl_def D sc_with bd_with (fun _ => rfl) fun f cdv A outer s H E hr => ⟨_, (pss_one (ps_ret (pbT (⟨rfl, rfl, rfl, rfl, rfl⟩ : At _ T) (cTuple (⟨rfl, rfl, rfl, rfl, rfl⟩ : At _ T)) rfl F.tuple boot_tuple (pa_cons (pe_lc (own := [("a", 2), ("b", 3)]) rfl nd_with (piZ2 (⟨rfl, rfl, rfl, rfl, rfl⟩ : At _ T) rfl F.zip (pa_cons (pv 0) (pa_cons (pv 1) pa_nil))) (blkOk_by (own := [("a", 2), ("b", 3)]) (N := N_with) (sc := defScope s_with) (by decide +kernel)) (fun _ _ _ _ _ => (pgT 2 (⟨rfl, rfl, rfl, rfl, rfl⟩ : At _ T) rfl (pgs_cons (pg_name (i := 2) nd_with rfl (.inl rfl) (.inr rfl)) (pgs_cons (pg_name (i := 3) nd_with rfl (.inl rfl) (.inr rfl)) pgs_nil)))) (fun _ _ _ _ _ => pts_nil) (fun _ _ _ _ _ => (pe_op op_add (pv 2) (pv 3)))) pa_nil)))), ?_⟩
  rintro ⟨xs, ys⟩ Fm D eb hz hR -
  have hz : xs.length ≤ 1000 := hz
  refine tr_ret (ev_tupleL (en_lc (b := fun _ => true) (q := fun (x : Int × Int) (z : Int) => z = x.1 + x.2) (ei_z2 src_tup src_list (ev_var rfl) (ev_var rfl) tg_pair) (by decide) ?_ (fun _ _ _ _ => et_yes) fun _ _ x _ _ => ev_i0D (ev_var rfl) (ev_var rfl)).ev) hR ?_
  · rintro _ ⟨_, _, e1, e2, rfl⟩
    obtain rfl := e1.symm; obtain rfl := e2.symm
    show (List.zip xs ys).length < _
    rw [List.length_zip]; omega
  · rintro z ⟨_, ⟨_, _, e1, e2, rfl⟩, h⟩
    obtain rfl := e1.symm; obtain rfl := e2.symm
    rw [filter_true'] at h
    rw [paired_eq (f := fun x : Int × Int => x.1 + x.2) h]
    exact zw_zip (· + ·) xs ys
abbrev s_without : Stmt := topS 29
abbrev N_without : List Str := ["counts", "told", "a", "b"]
theorem sc_without : FnScope N_without ["counts", "told"] (defScope s_without) := ⟨rfl, rfl, rfl, by decide +kernel, rfl, by decide +kernel, by decide +kernel⟩
theorem nd_without : N_without.Nodup := by decide +kernel
theorem bd_without (kV doc pm : Value) (an : Option Addr) (cdv ct : Value) (us : List Value) (hl : us.length = List.length (α := Str) ["counts", "told"]) : bindArgs (PySem.W.fnOf "_without" "_without" (defArgs s_without) (defBody s_without) (defScope s_without) .none kV doc pm an cdv ct) ⟨us, []⟩ = pure (List.zip (α := Str) ["counts", "told"] us) := match us, hl with | [_, _], _ => rfl

abbrev spWithout (K : PySem.W.Frag) : Sp := spOf (ι := List Int × List Int) (fun _ => none) (fun g => [sh (qTI K) g.1, sh (qSeq K) g.2]) (fun g => g.1.length ≤ 1000) (qTI K) (fun g z => z = zw (· - ·) g.1 g.2)
theorem ok_without (F : TF T CS CR aS) (D : Dn T "_without" s_without) : Cl T 1 "_without" (spWithout T.K) := by
  refine cl_def D sc_without bd_without (fun _ => rfl) fun f cdv A outer s H E hr => ⟨_, (pss_one (ps_ret (pbT (⟨rfl, rfl, rfl, rfl, rfl⟩ : At _ T) (cTuple (⟨rfl, rfl, rfl, rfl, rfl⟩ : At _ T)) rfl F.tuple boot_tuple (pa_cons (pe_lc (own := [("a", 2), ("b", 3)]) rfl nd_without (piZ2 (⟨rfl, rfl, rfl, rfl, rfl⟩ : At _ T) rfl F.zip (pa_cons (pv 0) (pa_cons (pv 1) pa_nil))) (blkOk_by (own := [("a", 2), ("b", 3)]) (N := N_without) (sc := defScope s_without) (by decide +kernel)) (fun _ _ _ _ _ => (pgT 2 (⟨rfl, rfl, rfl, rfl, rfl⟩ : At _ T) rfl (pgs_cons (pg_name (i := 2) nd_without rfl (.inl rfl) (.inr rfl)) (pgs_cons (pg_name (i := 3) nd_without rfl (.inl rfl) (.inr rfl)) pgs_nil)))) (fun _ _ _ _ _ => pts_nil) (fun _ _ _ _ _ => (pe_op op_sub (pv 2) (pv 3)))) pa_nil)))), ?_⟩
  rintro ⟨xs, ys⟩ Fm D eb hz hR -
  have hz : xs.length ≤ 1000 := hz
  refine tr_ret (ev_tupleL (en_lc (b := fun _ => true) (q := fun (x : Int × Int) (z : Int) => z = x.1 - x.2) (ei_z2 src_tup src_seq (ev_var rfl) (ev_var rfl) tg_pair) (by decide) ?_ (fun _ _ _ _ => et_yes) fun _ _ x _ _ => ev_i0D (ev_var rfl) (ev_var rfl)).ev) hR ?_
  · rintro _ ⟨_, _, e1, e2, rfl⟩
    obtain rfl := e1.symm; obtain rfl := e2.symm
    show (List.zip xs ys).length < _
    rw [List.length_zip]; omega
  · rintro z ⟨_, ⟨_, _, e1, e2, rfl⟩, h⟩
    obtain rfl := e1.symm; obtain rfl := e2.symm
    rw [filter_true'] at h
    rw [paired_eq (f := fun x : Int × Int => x.1 - x.2) h]
    exact zw_zip (· - ·) xs ys
end
end Rf
/-! Mw: dicts as bags of counts; all alignments; what ways_to_go tells. -/
namespace Rf
open PySem

/-! ### dicts as bags -/
def addM (m : DM Int) (k : List Int) (v : Int) : DM Int := putM m k ((valM m k).getD 0 + v)
theorem valM_map {α : Type} (k : List Int) (v : α) (c : List Int) : ∀ m : DM α, valM (m.map fun x => if x.1 = k then (x.1, v) else x) c = if c = k then (valM m k).map (fun _ => v) else valM m c
  | [] => by simp [valM]
  | x :: m => by
    rw [List.map_cons, valM_cons, valM_map k v c m, valM_cons, valM_cons]
    by_cases e : c = k
    · subst e
      by_cases h : x.1 = c <;> simp [h]
    · by_cases h : x.1 = k
      · have : ¬ k = c := fun z => e z.symm
        simp [h, e, this]
      · simp [h, e]
theorem valM_append {α : Type} (c : List Int) (x : List Int × α) : ∀ m : DM α, valM (m ++ [x]) c = (valM m c).or (if x.1 = c then some x.2 else none)
  | [] => by rw [List.nil_append, valM_cons]; rfl
  | y :: m => by
    rw [List.cons_append, valM_cons, valM_cons, valM_append c x m]
    split <;> rfl
theorem valM_put {α : Type} (m : DM α) (k : List Int) (v : α) (c : List Int) : valM (putM m k v) c = if c = k then some v else valM m c := by
  unfold putM
  by_cases h : (valM m k).isSome = true
  · rw [if_pos h, valM_map]
    by_cases e : c = k
    · rw [if_pos e, if_pos e]
      obtain ⟨y, hy⟩ := Option.isSome_iff_exists.mp h
      rw [hy]; rfl
    · rw [if_neg e, if_neg e]
  · rw [if_neg h, valM_append]
    have hn : valM m k = none := by
      cases z : valM m k with
      | none => rfl
      | some y => rw [z] at h; exact (h rfl).elim
    by_cases e : c = k
    · subst e
      rw [hn]; simp
    · have : ¬ k = c := fun z => e z.symm
      simp [e, this]
def keysM {α : Type} (m : DM α) : List (List Int) := m.map (·.1)
theorem valM_none {α : Type} {k : List Int} : ∀ {m : DM α}, valM m k = none ↔ k ∉ keysM m
  | [] => by simp [valM, keysM]
  | x :: m => by
    rw [valM_cons]
    unfold keysM
    rw [List.map_cons, List.mem_cons, not_or]
    by_cases h : x.1 = k
    · simp [h]
    · rw [if_neg h, valM_none (m := m)]
      exact ⟨fun z => ⟨fun e => h e.symm, z⟩, fun z => z.2⟩
theorem keys_put {α : Type} {m : DM α} {k : List Int} {v : α} : keysM (putM m k v) = if (valM m k).isSome then keysM m else keysM m ++ [k] := by
  unfold putM
  split
  · unfold keysM
    rw [List.map_map]
    apply List.map_congr_left
    intro x _
    show (if x.1 = k then (x.1, v) else x).1 = x.1
    split <;> rfl
  · unfold keysM; rw [List.map_append]; rfl
theorem nodup_put {α : Type} {m : DM α} {k : List Int} {v : α} (h : (keysM m).Nodup) : (keysM (putM m k v)).Nodup := by
  rw [keys_put]
  split
  · exact h
  · rename_i hn
    have : valM m k = none := by
      cases z : valM m k with
      | none => rfl
      | some y => rw [z] at hn; exact (hn rfl).elim
    have := valM_none.mp this
    rw [List.nodup_append]
    exact ⟨h, by simp, by intro a ha b hb e; rw [List.mem_singleton.mp hb] at e; exact this (e ▸ ha)⟩
theorem mem_valM {α : Type} {x : List Int × α} : ∀ {m : DM α}, (keysM m).Nodup → x ∈ m → valM m x.1 = some x.2
  | y :: m, h, hx => by
    unfold keysM at h
    rw [List.map_cons, List.nodup_cons] at h
    rw [valM_cons]
    rcases List.mem_cons.mp hx with e | hx
    · rw [e, if_pos rfl]
    · rw [if_neg (fun z => h.1 (by rw [z]; exact List.mem_map_of_mem hx))]
      exact mem_valM h.2 hx
theorem valM_mem {α : Type} {k : List Int} {v : α} {m : DM α} (h : valM m k = some v) : (k, v) ∈ m := by
  induction m with
  | nil => cases h
  | cons x m ih =>
    rw [valM_cons] at h
    by_cases e : x.1 = k
    · rw [if_pos e] at h
      cases h
      rw [← e]; exact List.mem_cons_self
    · rw [if_neg e] at h
      exact List.mem_cons_of_mem _ (ih h)
/-- m tells how often each is in L -/
structure Rep (m : DM Int) (L : List (List Int)) : Prop where
  nd : (keysM m).Nodup
  val : ∀ c, valM m c = if L.count c = 0 then none else some (L.count c : Int)
theorem Rep.nil : Rep [] [] := ⟨by simp [keysM], fun c => rfl⟩
theorem Rep.one (c : List Int) : Rep [(c, 1)] [c] := ⟨by simp [keysM], fun d => by
  rw [valM_cons, List.count_singleton]
  by_cases h : c = d
  · subst h; simp
  · rw [if_neg h]
    have : (c == d) = false := by simpa using h
    rw [this]; rfl⟩
theorem Rep.perm {m : DM Int} {L L' : List (List Int)} (h : Rep m L) (p : L.Perm L') : Rep m L' := ⟨h.nd, fun c => by rw [h.val, p.count_eq]⟩
theorem Rep.get {m : DM Int} {L : List (List Int)} (h : Rep m L) (c : List Int) : (valM m c).getD 0 = (L.count c : Int) := by
  rw [h.val]
  split
  · rename_i e; rw [e]; rfl
  · rfl
theorem Rep.mem {m : DM Int} {L : List (List Int)} (h : Rep m L) {x : List Int × Int} (hx : x ∈ m) : 0 < x.2 ∧ x.2 = (L.count x.1 : Int) ∧ x.1 ∈ L := by
  have := mem_valM h.nd hx
  rw [h.val] at this
  split at this
  · cases this
  · rename_i e
    have e2 := (Option.some.inj this).symm
    exact ⟨by omega, e2, List.count_pos_iff.mp (by omega)⟩
theorem Rep.add {m : DM Int} {L : List (List Int)} (h : Rep m L) (k : List Int) (w : Nat) (hw : 0 < w) : Rep (addM m k w) (L ++ List.replicate w k) := by
  refine ⟨nodup_put h.nd, fun c => ?_⟩
  unfold addM
  rw [valM_put, List.count_append, List.count_replicate, h.get]
  by_cases e : c = k
  · subst e
    simp
    have : ¬ (L.count c + w = 0) := by omega
    omega
  · rw [if_neg e, h.val]
    have : (k == c) = false := by simpa using fun z => e z.symm
    rw [this]; simp
def expand (m : DM Int) : List (List Int) := m.flatMap fun x => List.replicate x.2.toNat x.1
theorem count_expand (c : List Int) : ∀ {m : DM Int}, (keysM m).Nodup → (∀ x ∈ m, 0 < x.2) → ((expand m).count c : Int) = (valM m c).getD 0
  | [], _, _ => rfl
  | x :: m, h, hp => by
    unfold keysM at h
    rw [List.map_cons, List.nodup_cons] at h
    have ih := count_expand c (m := m) h.2 fun y hy => hp y (List.mem_cons_of_mem _ hy)
    unfold expand at ih ⊢
    rw [List.flatMap_cons, List.count_append, List.count_replicate, valM_cons]
    have h0 := hp x List.mem_cons_self
    by_cases e : x.1 = c
    · have hn : valM m c = none := valM_none.mpr (by rw [← e]; exact h.1)
      rw [hn] at ih
      have ih' : ((m.flatMap fun x => List.replicate x.2.toNat x.1).count c : Int) = 0 := ih
      simp [e]; omega
    · have : (x.1 == c) = false := by simpa using e
      rw [this, if_neg e, ← ih]; simp
theorem Rep.expand {m : DM Int} {L : List (List Int)} (h : Rep m L) : (Rf.expand m).Perm L := by
  rw [List.perm_iff_count]
  intro c
  have := count_expand c h.nd fun x hx => (h.mem hx).1
  rw [h.get] at this
  omega
/-- adding all of a dict, moved by f -/
theorem Rep.addAll {m d : DM Int} {L : List (List Int)} (f : List Int → List Int) (h : Rep m L) : ∀ (n : Nat), (∀ x ∈ d, 0 < x.2) → Rep ((d.take n).foldl (fun m x => addM m (f x.1) x.2) m) (L ++ ((d.take n).flatMap fun x => List.replicate x.2.toNat (f x.1)))
  | 0, _ => by simpa using h
  | n + 1, hp => by
    have ih := Rep.addAll f h n hp
    cases e : d[n]? with
    | none => rw [List.take_add_one, e]; simpa using ih
    | some x =>
      rw [take_succ' e, List.foldl_append, List.flatMap_append]
      have hx := hp x (List.mem_of_getElem? e)
      have ew : x.2 = ((x.2.toNat : Nat) : Int) := by omega
      have := ih.add (f x.1) x.2.toNat (by omega)
      rw [← ew] at this
      rw [List.append_assoc] at this
      simpa using this

/-! ### alignments -/
/-- all alignments of two words, as they are tried -/
def Al : List Nat → List Nat → List (List Nat × List Nat)
  | [], [] => [([], [])]
  | a :: x, [] => (Al x []).map fun r => (a :: r.1, 45 :: r.2)
  | [], b :: y => (Al [] y).map fun r => (45 :: r.1, b :: r.2)
  | a :: x, b :: y => ((Al x y).map fun r => (a :: r.1, b :: r.2)) ++ (((Al x (b :: y)).map fun r => (a :: r.1, 45 :: r.2)) ++ ((Al (a :: x) y).map fun r => (45 :: r.1, b :: r.2)))
termination_by x y => x.length + y.length
/-- the counts of columns behind a column of the kind k -/
def cntR (sc : Sc) : Int → List (Nat × Nat) → List Int
  | _, [] => List.replicate sc.size.toNat 0
  | k, c :: l => zw (· + ·) (cntR sc (kindF c) l) (addedF sc (kindF c) k c.1 c.2)
def cntA (sc : Sc) (k : Int) (al : List Nat × List Nat) : List Int := cntR sc k (al.1.zip al.2)
theorem cntR_len (sc : Sc) : ∀ (k : Int) (l : List (Nat × Nat)), (cntR sc k l).length = sc.size.toNat
  | _, [] => by unfold cntR; simp
  | k, c :: l => by unfold cntR; rw [zw_len, added_len, cntR_len sc _ l, Nat.min_self]
theorem zw_comm (xs ys : List Int) : zw (· + ·) xs ys = zw (· + ·) ys xs := by
  unfold zw
  rw [List.zipWith_comm]
  congr 1
  funext a b
  exact Int.add_comm _ _
theorem zw_assoc : ∀ (xs ys zs : List Int), zw (· + ·) (zw (· + ·) xs ys) zs = zw (· + ·) xs (zw (· + ·) ys zs)
  | [], _, _ => by simp [zw]
  | _ :: _, [], _ => by simp [zw]
  | _ :: _, _ :: _, [] => by simp [zw]
  | x :: xs, y :: ys, z :: zs => by
    have := zw_assoc xs ys zs
    unfold zw at this ⊢
    simp only [List.zipWith_cons_cons, this, Int.add_assoc]
theorem zw_zero : ∀ (xs : List Int) (n : Nat), xs.length = n → zw (· + ·) xs (List.replicate n 0) = xs
  | [], _, _ => by simp [zw]
  | x :: xs, 0, h => by simp at h
  | x :: xs, n + 1, h => by
    have := zw_zero xs n (by simpa using h)
    unfold zw at this ⊢
    rw [List.replicate_succ, List.zipWith_cons_cons, this, Int.add_zero]
theorem fold_cnt (sc : Sc) : ∀ (l : List (Nat × Nat)) (acc : List Int) (k : Int), acc.length = sc.size.toNat → ((l.map fun c => (kindF c, c)).foldl (stepF sc) (acc, k)).1 = zw (· + ·) acc (cntR sc k l)
  | [], acc, k, h => by
    unfold cntR
    rw [zw_zero _ _ h]; rfl
  | c :: l, acc, k, h => by
    rw [List.map_cons, List.foldl_cons]
    have e : stepF sc (acc, k) (kindF c, c) = (zw (· + ·) acc (addedF sc (kindF c) k c.1 c.2), kindF c) := rfl
    rw [e, fold_cnt sc l _ _ (by rw [zw_len, added_len, h, Nat.min_self]), zw_assoc]
    conv => rhs; unfold cntR
    rw [zw_comm (addedF _ _ _ _ _)]
theorem zipAl_eq (al : List Nat × List Nat) : zipAl al = (al.1.zip al.2).map fun c => (kindF c, c) := by
  unfold zipAl kindsF
  generalize al.1.zip al.2 = l
  induction l with
  | nil => rfl
  | cons c l ih => rw [List.map_cons, List.map_cons, List.zip_cons_cons, ih]
theorem counts_cnt (sc : Sc) (al : List Nat × List Nat) : countsF sc al = cntA sc 0 al := by
  unfold countsF cntA
  rw [zipAl_eq, fold_cnt sc _ _ _ (by simp), zw_comm, zw_zero _ _ (cntR_len _ _ _)]
def okW (x : List Nat) : Prop := 45 ∉ x
/-- suffixes by the moves -/
def Suf (sc : Sc) (x y : List Nat) (i j : Nat) (k : Int) : List (List Int) := (Al (x.drop i) (y.drop j)).map (cntA sc k)
theorem cntA_cons (sc : Sc) (k : Int) (a b : Nat) (r : List Nat × List Nat) : cntA sc k (a :: r.1, b :: r.2) = zw (· + ·) (cntA sc (kindF (a, b)) r) (addedF sc (kindF (a, b)) k a b) := by
  unfold cntA
  show cntR sc k (List.zip (a :: r.1) (b :: r.2)) = _
  rw [List.zip_cons_cons]
  conv => lhs; unfold cntR
theorem drop_cons {x : List Nat} {i : Nat} (h : i < x.length) : x.drop i = x.getD i 0 :: x.drop (i + 1) := by
  rw [List.drop_eq_getElem_cons h, List.getD_eq_getElem?_getD, List.getElem?_eq_getElem h]; rfl
theorem kind_del {a : Nat} (h : a ≠ 45) : kindF (a, 45) = 1 := by unfold kindF; rw [if_neg h, if_pos rfl]
theorem kind_ins {b : Nat} : kindF (45, b) = 2 := by unfold kindF; rw [if_pos rfl]
theorem kind_mat {a b : Nat} (h : a ≠ 45) (h2 : b ≠ 45) : kindF (a, b) = 0 := by unfold kindF; rw [if_neg h, if_neg h2]
theorem suf_end (sc : Sc) (x y : List Nat) (i j : Nat) (k : Int) (hi : x.length ≤ i) (hj : y.length ≤ j) : Suf sc x y i j k = [List.replicate sc.size.toNat 0] := by
  unfold Suf
  rw [List.drop_eq_nil_of_le hi, List.drop_eq_nil_of_le hj]
  unfold Al
  rfl
def nodeOf (mv : Int × List Int × List Int) : Nat × Nat × Int := ((mv.2.1.getD 0 0).toNat, (mv.2.1.getD 1 0).toNat, mv.2.1.getD 2 0)
theorem suf_moves (sc : Sc) (x y : List Nat) (hx : okW x) (hy : okW y) (i j : Nat) (k : Int) (h : ¬ (x.length ≤ i ∧ y.length ≤ j)) :
    Suf sc x y i j k = (movesF sc x y i j k).flatMap fun mv => (Suf sc x y (nodeOf mv).1 (nodeOf mv).2.1 (nodeOf mv).2.2).map fun c => zw (· + ·) c mv.2.2 := by
  have mem : ∀ {z : List Nat} {n : Nat}, okW z → n < z.length → z.getD n 0 ≠ 45 := fun {z n} hz hn e => by
    rw [List.getD_eq_getElem?_getD, List.getElem?_eq_getElem hn] at e
    exact hz (by rw [← show z[n] = 45 from e]; exact List.getElem_mem hn)
  have n0 : nodeOf ((0 : Int), [(i : Int) + 1, (j : Int) + 1, 0], addedF sc 0 k (x.getD i 0) (y.getD j 0)) = (i + 1, j + 1, 0) := by
    unfold nodeOf; simp
  have n1 : nodeOf ((1 : Int), [(i : Int) + 1, (j : Int), 1], addedF sc 1 k (x.getD i 0) 45) = (i + 1, j, 1) := by
    unfold nodeOf; simp
  have n2 : nodeOf ((2 : Int), [(i : Int), (j : Int) + 1, 2], addedF sc 2 k 45 (y.getD j 0)) = (i, j + 1, 2) := by
    unfold nodeOf; simp
  unfold movesF
  by_cases hi : i < x.length
  · by_cases hj : j < y.length
    · rw [if_pos ⟨hi, hj⟩, if_pos hi, if_pos hj]
      simp only [List.flatMap_append, List.flatMap_cons, List.flatMap_nil, List.append_nil, n0, n1, n2]
      unfold Suf
      rw [drop_cons hi, drop_cons hj]
      conv => lhs; unfold Al
      simp only [List.map_append, List.map_map]
      rw [← drop_cons hj, ← drop_cons hi]
      congr 1
      · apply List.map_congr_left
        intro r _
        show cntA sc k (_ :: r.1, _ :: r.2) = _
        rw [cntA_cons, kind_mat (mem hx hi) (mem hy hj)]; rfl
      congr 1
      · apply List.map_congr_left
        intro r _
        show cntA sc k (_ :: r.1, _ :: r.2) = _
        rw [cntA_cons, kind_del (mem hx hi)]; rfl
    · rw [if_neg (fun z => hj z.2), if_pos hi, if_neg hj]
      simp only [List.flatMap_append, List.flatMap_cons, List.flatMap_nil, List.append_nil, List.nil_append, n1]
      unfold Suf
      rw [drop_cons hi, List.drop_eq_nil_of_le (by omega : y.length ≤ j)]
      conv => lhs; unfold Al
      simp only [List.map_map]
      apply List.map_congr_left
      intro r _
      show cntA sc k (_ :: r.1, _ :: r.2) = _
      rw [cntA_cons, kind_del (mem hx hi)]; rfl
  · have hj : j < y.length := by omega
    rw [if_neg (fun z => hi z.1), if_neg hi, if_pos hj]
    simp only [List.flatMap_append, List.flatMap_cons, List.flatMap_nil, List.append_nil, List.nil_append, n2]
    unfold Suf
    rw [drop_cons hj, List.drop_eq_nil_of_le (by omega : x.length ≤ i)]
    conv => lhs; unfold Al
    simp only [List.map_map]
    apply List.map_congr_left
    intro r _
    show cntA sc k (_ :: r.1, _ :: r.2) = _
    rw [cntA_cons, kind_ins]; rfl
end Rf
/-! WkE: ways_to_go. -/
namespace Rf
open PySem PySem.Spec PyProof.Rows L2

/-! ### nodes in order -/
def dl : Nat → Nat → Nat
  | 0, 0 => 1
  | n + 1, 0 => dl n 0
  | 0, m + 1 => dl 0 m
  | n + 1, m + 1 => dl n m + (dl n (m + 1) + dl (n + 1) m)
theorem al_len : ∀ x y : List Nat, (Al x y).length = dl x.length y.length
  | [], [] => by unfold Al dl; rfl
  | a :: x, [] => by unfold Al; rw [List.length_map, al_len x []]; show _ = dl (x.length + 1) 0; conv => rhs; unfold dl
                     all_goals rfl
  | [], b :: y => by unfold Al; rw [List.length_map, al_len [] y]; show _ = dl 0 (y.length + 1); conv => rhs; unfold dl
                     all_goals rfl
  | a :: x, b :: y => by
    unfold Al
    rw [List.length_append, List.length_append, List.length_map, List.length_map, List.length_map, al_len x y, al_len x (b :: y), al_len (a :: x) y]
    show _ = dl (x.length + 1) (y.length + 1)
    conv => rhs; unfold dl
    rfl
termination_by x y => x.length + y.length
theorem dl_small {n m : Nat} (hn : n ≤ 3) (hm : m ≤ 3) : dl n m ≤ 63 := by
  have h1 : n = 0 ∨ n = 1 ∨ n = 2 ∨ n = 3 := by omega
  have h2 : m = 0 ∨ m = 1 ∨ m = 2 ∨ m = 3 := by omega
  rcases h1 with rfl | rfl | rfl | rfl <;> rcases h2 with rfl | rfl | rfl | rfl <;> simp [dl]
theorem suf_len (sc : Sc) {x y : List Nat} (i j : Nat) (k : Int) (hx : x.length ≤ 3) (hy : y.length ≤ 3) : (Suf sc x y i j k).length ≤ 63 := by
  unfold Suf
  rw [List.length_map, al_len]
  exact dl_small (by rw [List.length_drop]; omega) (by rw [List.length_drop]; omega)
theorem Rep.len {m : DM Int} {L : List (List Int)} (h : Rep m L) : m.length ≤ L.length := by
  rw [← h.expand.length_eq]
  have hp : ∀ x ∈ m, 0 < x.2 := fun x hx => (h.mem hx).1
  clear h
  induction m with
  | nil => exact Nat.le_refl _
  | cons x m ih =>
    have := ih fun y hy => hp y (List.mem_cons_of_mem _ hy)
    have h0 := hp x List.mem_cons_self
    unfold Rf.expand at this ⊢
    rw [List.flatMap_cons, List.length_append, List.length_replicate, List.length_cons]
    omega
theorem mem_nodes {n m : Nat} {z : List Int} : z ∈ nodesF n m ↔ ∃ (i j : Nat) (k : Int), i ≤ n ∧ j ≤ m ∧ (k = 0 ∨ k = 1 ∨ k = 2) ∧ z = [(i : Int), (j : Int), k] := by
  unfold nodesF
  simp only [List.mem_flatMap, List.mem_range, List.mem_cons, List.not_mem_nil, or_false]
  constructor
  · rintro ⟨i, hi, j, hj, h⟩
    rcases h with h | h | h
    · exact ⟨i, j, 0, by omega, by omega, .inl rfl, h⟩
    · exact ⟨i, j, 1, by omega, by omega, .inr (.inl rfl), h⟩
    · exact ⟨i, j, 2, by omega, by omega, .inr (.inr rfl), h⟩
  · rintro ⟨i, j, k, hi, hj, hk, h⟩
    refine ⟨i, by omega, j, by omega, ?_⟩
    rcases hk with rfl | rfl | rfl
    · exact .inl h
    · exact .inr (.inl h)
    · exact .inr (.inr h)
/-- not behind -/
def nB (a b : List Int) : Prop := a.getD 0 0 < b.getD 0 0 ∨ (a.getD 0 0 = b.getD 0 0 ∧ a.getD 1 0 ≤ b.getD 1 0)
theorem nodes_sorted (n m : Nat) : (nodesF n m).Pairwise nB := by
  unfold nodesF
  rw [List.pairwise_flatMap]
  refine ⟨fun i _ => ?_, ?_⟩
  · rw [List.pairwise_flatMap]
    refine ⟨fun j _ => ?_, ?_⟩
    · simp [nB]
    · refine List.Pairwise.imp ?_ List.pairwise_lt_range
      intro a b hab z hz z' hz'
      simp only [List.mem_cons, List.not_mem_nil, or_false] at hz hz'
      refine .inr ⟨?_, ?_⟩
      · rcases hz with rfl | rfl | rfl <;> rcases hz' with rfl | rfl | rfl <;> rfl
      · rcases hz with rfl | rfl | rfl <;> rcases hz' with rfl | rfl | rfl <;> (show (a : Int) ≤ (b : Int); omega)
  · refine List.Pairwise.imp ?_ List.pairwise_lt_range
    intro a b hab z hz z' hz'
    simp only [List.mem_flatMap, List.mem_range, List.mem_cons, List.not_mem_nil, or_false] at hz hz'
    obtain ⟨j, _, hz⟩ := hz
    obtain ⟨j', _, hz'⟩ := hz'
    refine .inl ?_
    rcases hz with rfl | rfl | rfl <;> rcases hz' with rfl | rfl | rfl <;> (show (a : Int) < (b : Int); omega)
theorem later_seen {n m t : Nat} {z o : List Int} (h : (nodesF n m).reverse[t]? = some z) (ho : o ∈ nodesF n m) (hb : ¬ nB o z) (hz : nB z z) : o ∈ (nodesF n m).reverse.take t := by
  generalize hL : (nodesF n m).reverse = L at h ⊢
  have eL : nodesF n m = L.reverse := by rw [← hL, List.reverse_reverse]
  have ht : t < L.length := (List.getElem?_eq_some_iff.mp h).1
  have e2 : L = L.take t ++ z :: L.drop (t + 1) := by
    rw [← (List.getElem?_eq_some_iff.mp h).2, ← List.drop_eq_getElem_cons ht, List.take_append_drop]
  have ps := nodes_sorted n m
  rw [eL, e2, List.reverse_append, List.reverse_cons, List.append_assoc] at ps
  rw [eL, e2] at ho
  rw [List.mem_reverse, List.mem_append, List.mem_cons] at ho
  rcases ho with ho | ho | ho
  · exact ho
  · rw [ho] at hb; exact (hb hz).elim
  · exfalso
    rw [List.pairwise_append] at ps
    exact hb (ps.2.2 o (List.mem_reverse.mpr ho) z (by simp))
theorem move_shape {sc : Sc} {x y : List Nat} {i j : Nat} {k : Int} {mv : Int × List Int × List Int} (h : mv ∈ movesF sc x y i j k) (hi : i ≤ x.length) (hj : j ≤ y.length) :
    ∃ (i' j' : Nat), mv.2.1 = [(i' : Int), (j' : Int), mv.1] ∧ nodeOf mv = (i', j', mv.1) ∧ i' ≤ x.length ∧ j' ≤ y.length ∧ (mv.1 = 0 ∨ mv.1 = 1 ∨ mv.1 = 2) ∧ (i < i' ∨ (i = i' ∧ j < j')) ∧ mv.2.2.length = sc.size.toNat := by
  unfold movesF at h
  rw [List.mem_append, List.mem_append] at h
  rcases h with h | h | h
  · split at h
    · rename_i hc
      cases List.mem_singleton.mp h
      refine ⟨i + 1, j + 1, by simp, by unfold nodeOf; simp, by omega, by omega, .inl rfl, .inl (by omega), by exact added_len sc 0 k (x.getD i 0) (y.getD j 0)⟩
    · cases h
  · split at h
    · rename_i hc
      cases List.mem_singleton.mp h
      refine ⟨i + 1, j, by simp, by unfold nodeOf; simp, by omega, by omega, .inr (.inl rfl), .inl (by omega), by exact added_len sc 1 k (x.getD i 0) 45⟩
    · cases h
  · split at h
    · rename_i hc
      cases List.mem_singleton.mp h
      refine ⟨i, j + 1, by simp, by unfold nodeOf; simp, by omega, by omega, .inr (.inr rfl), .inr ⟨rfl, by omega⟩, by exact added_len sc 2 k 45 (y.getD j 0)⟩
    · cases h
theorem moves_end {sc : Sc} {x y : List Nat} {i j : Nat} {k : Int} (hi : x.length ≤ i) (hj : y.length ≤ j) : movesF sc x y i j k = [] := by
  unfold movesF
  rw [if_neg (by omega), if_neg (by omega), if_neg (by omega)]; rfl
theorem moves_len (sc : Sc) (x y : List Nat) (i j : Nat) (k : Int) : (movesF sc x y i j k).length ≤ 3 := by
  unfold movesF
  rw [List.length_append, List.length_append]
  split <;> split <;> split <;> simp
section
variable {T : Tx} {CS CR aS : Addr} {β : Option Addr} {Γ : EnvA} {te ta tb : TE} {K : PySem.W.Frag}
/-- what ways_to_go tells -/
def WTG (sc : Sc) (x y : List Nat) (m : DM (DM Int)) : Prop := ∀ (i j : Nat) (k : Int), i ≤ x.length → j ≤ y.length → (k = 0 ∨ k = 1 ∨ k = 2) → ∃ d, valM m [(i : Int), (j : Int), k] = some d ∧ Rep d (Suf sc x y i j k)
def okXY (g : Sc × List Nat × List Nat) : Prop := g.1.groups.length ≤ 4 ∧ g.2.1.length ≤ 3 ∧ g.2.2.length ≤ 3 ∧ okW g.2.1 ∧ okW g.2.2
abbrev s_ways_to_go : Stmt := topS 30
abbrev N_ways_to_go : List Str := ["scheme", "first", "second", "found", "zero", "place", "node", "here", "kind", "other", "told", "counts", "ways", "whole"]
theorem sc_ways_to_go : FnScope N_ways_to_go ["scheme", "first", "second"] (defScope s_ways_to_go) := ⟨rfl, rfl, rfl, by decide +kernel, rfl, by decide +kernel, by decide +kernel⟩
theorem nd_ways_to_go : N_ways_to_go.Nodup := by decide +kernel
theorem bd_ways_to_go (kV doc pm : Value) (an : Option Addr) (cdv ct : Value) (us : List Value) (hl : us.length = List.length (α := Str) ["scheme", "first", "second"]) : bindArgs (PySem.W.fnOf "ways_to_go" "ways_to_go" (defArgs s_ways_to_go) (defBody s_ways_to_go) (defScope s_ways_to_go) .none kV doc pm an cdv ct) ⟨us, []⟩ = pure (List.zip (α := Str) ["scheme", "first", "second"] us) := match us, hl with | [_, _, _], _ => rfl

abbrev spWTG (CS : Addr) (T : Tx) : Sp := spOf (ι := Sc × List Nat × List Nat) (fun _ => none) (fun g => [sh (qSc CS) g.1, sh qW g.2.1, sh qW g.2.2]) okXY (qD T.P T.w T.K (qD T.P T.w T.K qI)) (fun g z => WTG g.1 g.2.1 g.2.2 z)
theorem ok_ways_to_go (F : TF T CS CR aS) (csize : Cl T 1 "size" (spSize CS)) (cnodes : Cl T 1 "nodes" (spNodes T.K)) (cis_end : Cl T 1 "is_end" (spIsEnd T.K)) (cmoves : Cl T 3 "moves" (spMoves CS T.K)) (c_with : Cl T 1 "_with" (spWith T.K)) (D : Dn T "ways_to_go" s_ways_to_go) :
    Cl T 4 "ways_to_go" (spWTG CS T) := by
  refine cl_def D sc_ways_to_go bd_ways_to_go (fun _ => rfl) fun f cdv A outer s H E hr => ⟨_, (pss_cons (ps_set (i := 3) nd_ways_to_go rfl (Or.inl rfl) (xd_new (P := T.P) (w := T.w) rfl rfl))
      (pss_cons (ps_set (i := 4) nd_ways_to_go rfl (Or.inl rfl) (pbT (⟨rfl, rfl, rfl, rfl, rfl⟩ : At _ T) (cTuple (⟨rfl, rfl, rfl, rfl, rfl⟩ : At _ T)) rfl F.tuple boot_tuple (pa_cons (pe_lc (own := [("place", 5)]) rfl nd_ways_to_go (piR (⟨rfl, rfl, rfl, rfl, rfl⟩ : At _ T) rfl F.range (pa_cons (pc csize (⟨rfl, rfl, rfl, rfl, rfl⟩ : At _ T) hr (by decide) rfl (pa_cons (pv 0) pa_nil)) pa_nil)) (blkOk_by (own := [("place", 5)]) (N := N_ways_to_go) (sc := defScope s_ways_to_go) (by decide +kernel)) (fun _ _ _ _ _ => (pg_name (i := 5) nd_ways_to_go rfl (.inl rfl) (.inr rfl))) (fun _ _ _ _ _ => pts_nil) (fun _ _ _ _ _ => pe_int)) pa_nil)))
      (pss_cons (ps_for PassesOwn.never rfl (piL (⟨rfl, rfl, rfl, rfl, rfl⟩ : At _ T) (pRev (⟨rfl, rfl, rfl, rfl, rfl⟩ : At _ T) (pc cnodes (⟨rfl, rfl, rfl, rfl, rfl⟩ : At _ T) hr (by decide) rfl (pa_cons (pv 1) (pa_cons (pv 2) pa_nil))))) (pg_name (i := 6) nd_ways_to_go rfl (.inl rfl) (.inl rfl)) (pss_cons (ps_set (i := 7) nd_ways_to_go rfl (Or.inl rfl) (pe_ifExp (pt_val (pc cis_end (⟨rfl, rfl, rfl, rfl, rfl⟩ : At _ T) hr (by decide) rfl (pa_cons (pv 1) (pa_cons (pv 2) (pa_cons (pv 6) pa_nil))))) (xd_disp1 (w := T.w) (K := T.K) (P := T.P) rfl rfl rfl (huA hr) (pv 4) pe_int) (xd_new (P := T.P) (w := T.w) rfl rfl)))
      (pss_cons (ps_for PassesOwn.never rfl (piL (⟨rfl, rfl, rfl, rfl, rfl⟩ : At _ T) (pc cmoves (⟨rfl, rfl, rfl, rfl, rfl⟩ : At _ T) hr (by decide) rfl (pa_cons (pv 0) (pa_cons (pv 1) (pa_cons (pv 2) (pa_cons (pv 6) pa_nil)))))) (pgT 3 (⟨rfl, rfl, rfl, rfl, rfl⟩ : At _ T) rfl (pgs_cons (pg_name (i := 8) nd_ways_to_go rfl (.inl rfl) (.inl rfl)) (pgs_cons (pg_name (i := 9) nd_ways_to_go rfl (.inl rfl) (.inl rfl)) (pgs_cons (pg_name (i := 10) nd_ways_to_go rfl (.inl rfl) (.inl rfl)) pgs_nil)))) (pss_one (ps_for PassesOwn.never rfl (xi_items (P := T.P) (w := T.w) rfl rfl (xd_get (P := T.P) (w := T.w) (K := T.K) rfl rfl rfl (hu_of hr) (pv 3) (pv 9) (fun _ _ => rfl))) (pgT 2 (⟨rfl, rfl, rfl, rfl, rfl⟩ : At _ T) rfl (pgs_cons (pg_name (i := 11) nd_ways_to_go rfl (.inl rfl) (.inl rfl)) (pgs_cons (pg_name (i := 12) nd_ways_to_go rfl (.inl rfl) (.inl rfl)) pgs_nil))) (pss_cons (ps_set (i := 13) nd_ways_to_go rfl (Or.inl rfl) (pc c_with (⟨rfl, rfl, rfl, rfl, rfl⟩ : At _ T) hr (by decide) rfl (pa_cons (pv 11) (pa_cons (pv 10) pa_nil))))
      (pss_one (xs_put (P := T.P) (w := T.w) (K := T.K) rfl rfl rfl (hu_of hr) (pv 7) (pv 13) (pe_op op_add (xd_get2 (P := T.P) (w := T.w) (K := T.K) rfl rfl rfl (hu_of hr) (pv 7) (pv 13) pe_int ⟨rfl, rfl, rfl, rfl⟩) (pv 12)) rfl))))))
      (pss_one (xs_put (P := T.P) (w := T.w) (K := T.K) rfl rfl rfl (hu_of hr) (pv 3) (pv 6) (pv 7) rfl)))))
      (pss_one (ps_ret (pv 3)))))), ?_⟩
  rintro ⟨sc, x, y⟩ Fm D eb ⟨hg, hx, hy, ox, oy⟩ hR -
  have hg : sc.groups.length ≤ 4 := hg
  have hx : x.length ≤ 3 := hx
  have hy : y.length ≤ 3 := hy
  have hsz := size_range sc
  have hz : (List.replicate sc.size.toNat (0 : Int)).length ≤ 5 := by simp; omega
  generalize hzz : List.replicate sc.size.toNat (0 : Int) = zero at hz
  let QD := qD T.P T.w T.K qI
  let E0 : DM (DM Int) → Option Ent → Option Ent → EnvA := fun m a b => [some (sh (qSc CS) sc), some (sh qW x), some (sh qW y), some (ownD T.P T.w T.K QD m), some (sh (qTI T.K) zero), none, a, b, none, none, none, none, none, none]
  show Tr Fm [some (sh (qSc CS) sc), some (sh qW x), some (sh qW y), none, none, none, none, none, none, none, none, none, none, none] _ _
  refine tr_asgND (K := T.K) (r := QD) end_nil ?_
  rintro _ rfl
  refine tr_asgD (x := zero) (ev_tupleL ((en_zeros (n := sc.size) (ev_sizeD (ev_var rfl)) (by omega)).imp fun _ e => by rw [e, hzz]).ev) ?_
  refine tr_less (Γ' := E0 [] none none) (by repeat (first | exact lss_nil | apply lss_some | apply lss_none)) ?_
  refine tr_forS (S := DM (DM Int)) (ei_list (p := (· = (nodesF x.length y.length).reverse)) ((en_rev (ev_call2D (p := (· = nodesF x.length y.length)) (ev_var rfl) (ev_var rfl) (x, y) rfl ⟨Nat.le_trans hx (by decide), Nat.le_trans hy (by decide)⟩ fun _ h => h)).imp ?_).ev tg_name)
    (fun xs t m => m.length ≤ t ∧ ∀ z ∈ xs.take t, ∀ (i j : Nat) (k : Int), z = [(i : Int), (j : Int), k] → ∃ d, valM m z = some d ∧ Rep d (Suf sc x y i j k)) (fun m => E0 m none none) ?_ ?_ ?_
  · rintro _ ⟨_, rfl, rfl⟩; rfl
  · rintro xs -
    exact ⟨[], ⟨Nat.le_refl _, by rw [List.take_zero]; intro _ h; cases h⟩, (by repeat (first | exact lss_nil | apply lss_some | apply lss_none))⟩
  · rintro xs rfl B t z hzt m ⟨hm1, hm2⟩
    have hzm : z ∈ nodesF x.length y.length := List.mem_reverse.mp (List.mem_of_getElem? hzt)
    obtain ⟨i, j, k, hi, hj, hk, rfl⟩ := mem_nodes.mp hzm
    have hlen : t < 48 := by
      have h1 := (List.getElem?_eq_some_iff.mp hzt).1
      rw [List.length_reverse] at h1
      have h2 : (nodesF x.length y.length).length = (x.length + 1) * ((y.length + 1) * 3) := by
        unfold nodesF
        rw [flat_len _ ((y.length + 1) * 3) (fun a => by rw [flat_len _ 3 (fun _ => rfl), List.length_range]), List.length_range]
      have h3 : (x.length + 1) * ((y.length + 1) * 3) ≤ 4 * 12 := Nat.mul_le_mul (by omega) (by omega)
      omega
    show Tr (Fm.at B) (E0 m (some (sh (qTI T.K) [(i : Int), (j : Int), k])) none) _ _
    have fin : (decide (i = x.length) && decide (j = y.length)) = decide (x.length ≤ i ∧ y.length ≤ j) := by
      rw [Bool.eq_iff_iff]; simp; omega
    refine tr_asgND (K := T.K) (r := qI) (q := (· = if x.length ≤ i ∧ y.length ≤ j then [(zero, (1 : Int))] else [])) (end_if (pb := (· = decide (x.length ≤ i ∧ y.length ≤ j))) (et_B (ev_call3D (ev_var rfl) (ev_var rfl) (ev_var rfl) (x, y, i, j, k) rfl ⟨Nat.le_trans hx (by decide), Nat.le_trans hy (by decide)⟩ fun _ e => e.trans fin)) (fun hb => (end_one (ev_var (r := qTI T.K) rfl) ev_int).imp ?_) fun hb => end_nil.imp ?_) ?_
    · rintro _ ⟨_, _, rfl, rfl, rfl⟩
      rw [if_pos (by simpa using hb.symm)]
    · rintro _ rfl
      rw [if_neg (by simpa using hb.symm)]
    rintro _ rfl
    have r0 : Rep (if x.length ≤ i ∧ y.length ≤ j then [(zero, (1 : Int))] else []) (if x.length ≤ i ∧ y.length ≤ j then [zero] else []) := by
      split
      · exact Rep.one _
      · exact Rep.nil
    generalize hd0 : (if x.length ≤ i ∧ y.length ≤ j then [(zero, (1 : Int))] else []) = d0 at r0
    generalize hL0 : (if x.length ≤ i ∧ y.length ≤ j then [zero] else []) = L0 at r0
    let con : Int × List Int × List Int → List (List Int) := fun mv => (Suf sc x y (nodeOf mv).1 (nodeOf mv).2.1 (nodeOf mv).2.2).map fun c => zw (· + ·) c mv.2.2
    have whole : Suf sc x y i j k = L0 ++ (movesF sc x y i j k).flatMap con := by
      by_cases h : x.length ≤ i ∧ y.length ≤ j
      · rw [suf_end sc x y i j k h.1 h.2, moves_end h.1 h.2, ← hL0, if_pos h, hzz]; rfl
      · rw [suf_moves sc x y ox oy i j k h, ← hL0, if_neg h]; rfl
    refine tr_forS (S := DM Int) (ei_list (p := (· = movesF sc x y i j k)) (ev_call4D (ev_var rfl) (ev_var rfl) (ev_var rfl) (ev_var rfl) (sc, x, y, i, j, k) rfl ⟨hg, Nat.le_trans hx (by decide), Nat.le_trans hy (by decide)⟩ fun _ h => h) tg_trip)
      (fun xs s d => Rep d (L0 ++ (xs.take s).flatMap con)) (fun d => E0 m (some (sh (qTI T.K) [(i : Int), (j : Int), k])) (some (ownD T.P T.w T.K qI d))) ?_ ?_ ?_
    · rintro xs rfl
      exact ⟨d0, by rw [List.take_zero]; simpa using r0, (by repeat (first | exact lss_nil | apply lss_some | apply lss_none))⟩
    · rintro xs rfl B2 s mv hmv d hd
      have hmm : mv ∈ movesF sc x y i j k := List.mem_of_getElem? hmv
      obtain ⟨i', j', e1, e2, hi', hj', hk', hlt, hl3⟩ := move_shape hmm hi hj
      show Tr ((Fm.at B).at B2) [some (sh (qSc CS) sc), some (sh qW x), some (sh qW y), some (ownD T.P T.w T.K QD m), some (sh (qTI T.K) zero), none, some (sh (qTI T.K) [(i : Int), (j : Int), k]), some (ownD T.P T.w T.K qI d), some (sh qI mv.1), some (sh (qTI T.K) mv.2.1), some (sh (rL qI) mv.2.2), none, none, none] _ _
      have hcon : con mv = (Suf sc x y i' j' mv.1).map fun c => zw (· + ·) c mv.2.2 := by
        show (Suf sc x y (nodeOf mv).1 (nodeOf mv).2.1 (nodeOf mv).2.2).map _ = _
        rw [e2]
      have seen : ∃ d', valM m mv.2.1 = some d' ∧ Rep d' (Suf sc x y i' j' mv.1) := by
        rw [e1]
        refine hm2 _ (later_seen hzt (mem_nodes.mpr ⟨i', j', mv.1, hi', hj', hk', rfl⟩) ?_ (.inr ⟨rfl, Int.le_refl _⟩)) i' j' mv.1 rfl
        rintro (h | ⟨h1, h2⟩)
        · have h : (i' : Int) < i := h
          omega
        · have h1 : (i' : Int) = i := h1
          have h2 : (j' : Int) ≤ j := h2
          omega
      have bnd : ∀ n, (L0 ++ ((movesF sc x y i j k).take n).flatMap con).length ≤ 63 := fun n => by
        have h1 := suf_len sc i j k hx hy
        rw [whole] at h1
        have h2 : ((movesF sc x y i j k).flatMap con) = ((movesF sc x y i j k).take n).flatMap con ++ ((movesF sc x y i j k).drop n).flatMap con := by
          rw [← List.flatMap_append, List.take_append_drop]
        rw [h2, List.length_append, List.length_append] at h1
        rw [List.length_append]; omega
      refine tr_last (tr_forS (S := DM Int) (ei_items (p := fun d' => Rep d' (Suf sc x y i' j' mv.1)) (ev_dget (r := QD) (ed_own rfl) (ev_var rfl) ?_) tg_pair)
        (fun its s' e => e = (its.take s').foldl (fun m x => addM m (zw (· + ·) x.1 mv.2.2) x.2) d) (fun e => [some (sh (qSc CS) sc), some (sh qW x), some (sh qW y), some (ownD T.P T.w T.K QD m), some (sh (qTI T.K) zero), none, some (sh (qTI T.K) [(i : Int), (j : Int), k]), some (ownD T.P T.w T.K qI e), none, none, some (sh (rL qI) mv.2.2), none, none, none]) ?_ ?_ ?_)
      · rintro _ _ rfl rfl; exact seen
      · rintro its -
        exact ⟨d, rfl, (by repeat (first | exact lss_nil | apply lss_some | apply lss_none))⟩
      · rintro its hits B3 s' it hit e he
        have hp : ∀ z ∈ its, 0 < z.2 := fun z hz => (hits.mem hz).1
        have hrep := Rep.addAll (d := its) (fun c => zw (· + ·) c mv.2.2) hd s' hp
        show Tr _ [some (sh (qSc CS) sc), some (sh qW x), some (sh qW y), some (ownD T.P T.w T.K QD m), some (sh (qTI T.K) zero), none, some (sh (qTI T.K) [(i : Int), (j : Int), k]), some (ownD T.P T.w T.K qI e), none, none, some (sh (rL qI) mv.2.2), some (sh (qTI T.K) it.1), some (sh qI it.2), none] _ _
        have hl1 : it.1.length = sc.size.toNat := by
          have := (hits.mem (List.mem_of_getElem? hit)).2.2
          unfold Suf at this
          obtain ⟨al, _, ea⟩ := List.mem_map.mp this
          rw [← ea]; exact cntR_len _ _ _
        refine tr_asgD (x := zw (· + ·) it.1 mv.2.2) (ev_call2D (ev_var rfl) (ev_var rfl) (it.1, mv.2.2) rfl (by show List.length it.1 ≤ 1000; omega) fun _ h => h) ?_
        have hel : e.length ≤ 1000000 := by
          have h1 := hrep.len
          rw [← he] at h1
          have h2 := bnd s
          have h3 : ((its.take s').flatMap fun x => List.replicate x.2.toNat (zw (· + ·) x.1 mv.2.2)).length ≤ (Rf.expand its).length := by
            have e4 : Rf.expand its = Rf.expand (its.take s') ++ Rf.expand (its.drop s') := by
              unfold Rf.expand; rw [← List.flatMap_append, List.take_append_drop]
            have e5 : ∀ l : DM Int, (l.flatMap fun x => List.replicate x.2.toNat (zw (· + ·) x.1 mv.2.2)).length = (Rf.expand l).length := by
              intro l
              unfold Rf.expand
              induction l with
              | nil => rfl
              | cons a l ih => simp only [List.flatMap_cons, List.length_append, List.length_replicate, ih]
            rw [e5, e4, List.length_append]; omega
          have h4 := hits.expand.length_eq
          have h5 := suf_len sc i' j' mv.1 hx hy
          rw [List.length_append] at h1
          omega
        refine tr_last (tr_putD (x := (valM e (zw (· + ·) it.1 mv.2.2)).getD 0 + it.2) (kk := zw (· + ·) it.1 mv.2.2) rfl (ev_i0 (pi := (· = (valM e (zw (· + ·) it.1 mv.2.2)).getD 0)) (pj := (· = it.2)) (ev_dget2 (px := (· = 0)) (ed_own rfl) (ev_var rfl) ev_int ?_) (ev_var rfl) ?_) (ev_var rfl) (by omega) ?_)
        · rintro _ _ _ rfl rfl rfl; rfl
        · rintro _ _ rfl rfl; rfl
        · exact tr_nx rfl (addM e (zw (· + ·) it.1 mv.2.2) it.2) (by rw [take_succ' hit, List.foldl_append, ← he]; rfl) (by repeat (first | exact lss_nil | apply lss_some | apply lss_none))
      · rintro its hits e he
        rw [List.take_length] at he
        have hp : ∀ z ∈ its, 0 < z.2 := fun z hz => (hits.mem hz).1
        have hrep := Rep.addAll (d := its) (fun c => zw (· + ·) c mv.2.2) hd its.length hp
        rw [List.take_length, ← he] at hrep
        refine tr_nx rfl e ?_ (by repeat (first | exact lss_nil | apply lss_some | apply lss_none))
        rw [take_succ' hmv, List.flatMap_append, List.flatMap_cons, List.flatMap_nil, List.append_nil, hcon, ← List.append_assoc]
        refine hrep.perm (List.Perm.append_left _ ?_)
        have e5 : (its.flatMap fun x => List.replicate x.2.toNat (zw (· + ·) x.1 mv.2.2)) = (Rf.expand its).map fun c => zw (· + ·) c mv.2.2 := by
          unfold Rf.expand
          rw [List.map_flatMap]
          simp only [List.map_replicate]
        rw [e5]
        exact hits.expand.map _
    · rintro xs rfl d hd
      rw [List.take_length, ← whole] at hd
      refine tr_shareD (i := 7) (r := qI) rfl (tr_last (tr_putD (i := 3) (r := QD) (x := d) (kk := [(i : Int), (j : Int), k]) rfl (ev_var rfl) (ev_var rfl) (by omega) ?_))
      refine tr_nx rfl _ ⟨?_, ?_⟩ (by repeat (first | exact lss_nil | apply lss_some | apply lss_none))
      · unfold putM
        split <;> simp <;> omega
      · intro z hz i' j' k' ez
        rw [take_succ' hzt, List.mem_append, List.mem_singleton] at hz
        rw [valM_put]
        by_cases q : z = [(i : Int), (j : Int), k]
        · rw [if_pos q]
          rw [q] at ez
          simp only [List.cons.injEq, and_true] at ez
          obtain ⟨h1, h2, h3⟩ := ez
          have h1 : i = i' := by omega
          have h2 : j = j' := by omega
          subst h1 h2 h3
          exact ⟨_, rfl, hd⟩
        · rw [if_neg q]
          exact hm2 z (hz.resolve_right q) i' j' k' ez
  · rintro xs rfl m ⟨hm1, hm2⟩
    refine tr_shareD (i := 3) (r := QD) rfl (tr_ret (ev_var rfl) hR ?_)
    rintro _ rfl i j k hi hj hk
    rw [List.take_length] at hm2
    exact hm2 _ (List.mem_reverse.mpr (mem_nodes.mpr ⟨i, j, k, hi, hj, hk, rfl⟩)) i j k rfl
end
end Rf
/-! Cal9: a dict of one's own whose inner dicts are still changed. -/
namespace Rf
open PySem PySem.Spec L2

/-- an object that one owns is changed, and what is owned may grow by b -/
theorem S.chg2 {F : Fr} {Γ : EnvA} {σ : L2.St} {A H : Hp} {i : Nat} {e e' : Ent} {v : V} {l b : Addr} {o : HO} (le : Le F.L A) (g : Grow F.bx F.A0 F.H0 A H) (R : Rel F.bx F.H0 Γ σ A H) (he : Γ[i]? = some (some e)) (hv : σ[i]? = some (some v)) (hl : e.fp H v l)
    (k : e'.p A (upd H l o) v) (hb : F.H0 b = none) (hbo : ∀ (j : Nat) (d : Ent) (w : V), j ≠ i → Γ[j]? = some (some d) → σ[j]? = some (some w) → ¬ d.fp H w b) (kf : ∀ a, e'.fp (upd H l o) v a → e.fp H v a ∨ a = b) : S F (Γ.set i (some e')) σ (upd H l o) := by
  obtain ⟨v', q1, q2, q3⟩ := R.ent i e he
  rw [hv] at q1; cases q1
  obtain ⟨hAl, u, hu⟩ := e.ow q2 hl
  have hl0 := q3 l hl
  have nb : ∀ b, F.bx = some b → b ≠ l := fun b hb z => by
    obtain ⟨_, _, o', q⟩ := R.bx b hb
    rw [z, hl0] at q; cases q
  have bxk : ∀ B, ∀ b, b ≠ l → Box B H b → Box B (upd H l o) b := fun B b n h => by
    obtain ⟨r, xs, n1, h1, h2⟩ := h
    exact ⟨r, xs, n1, by rw [upd_ne n]; exact h1, h2⟩
  refine ⟨A, le, ⟨g.le, fun a w ha => ?_, fun a w n h1 h2 => ?_, fun b n h1 h2 => ?_⟩, ?_⟩
  · rw [upd_ne (fun z => by rw [z, hAl] at ha; cases ha)]; exact g.sub a w ha
  · rw [upd_ne (fun z => by rw [z, hl0] at h2; cases h2)]; exact g.own a w n h1 h2
  · obtain ⟨z1, z2⟩ := g.box b n h1 h2
    exact ⟨z1, bxk A b (nb b n) z2⟩
  · have other : ∀ (j : Nat) (d : Ent) (w : V), j ≠ i → Γ[j]? = some (some d) → σ[j]? = some (some w) → d.p A (upd H l o) w ∧ ∀ a, d.fp (upd H l o) w a → d.fp H w a := fun j d w n h1 h2 => by
      obtain ⟨w', z1, z2, z3⟩ := R.ent j d h1
      rw [h2] at z1; cases z1
      refine d.st z2 Le.refl fun a u' fa ha => ⟨(d.ow z2 fa).1, ?_⟩
      rw [upd_ne (fun z => R.sep i j e d v w l (fun q => n q.symm) he h1 hv h2 hl (by rw [← z]; exact fa))]
      exact ha
    have hi : i < Γ.length := by
      by_cases z : i < Γ.length
      · exact z
      · rw [List.getElem?_eq_none (by omega)] at he; cases he
    have G : ∀ {j : Nat} {d : Ent}, (Γ.set i (some e'))[j]? = some (some d) → (j = i ∧ d = e') ∨ (j ≠ i ∧ Γ[j]? = some (some d)) := by
      intro j d hj
      by_cases q : i = j
      · subst q
        rw [List.getElem?_set_self hi] at hj
        exact .inl ⟨rfl, (Option.some.inj (Option.some.inj hj)).symm⟩
      · rw [List.getElem?_set_ne q] at hj
        exact .inr ⟨fun z => q z.symm, hj⟩
    refine ⟨fun a w ha => ?_, by rw [List.length_set]; exact R.len, fun a z => ?_, fun b hb => ?_, fun j d hj => ?_, fun j m d d' w w' a n h1 h2 h3 h4 h5 h6 => ?_⟩
    · rw [upd_ne (fun z => by rw [z, hAl] at ha; cases ha)]; exact R.sub a w ha
    · by_cases q : a = l
      · rw [q]; exact hl0
      · rw [upd_ne q] at z; exact R.h0 a z
    · obtain ⟨z1, z2, z3⟩ := R.bx b hb
      exact ⟨z1, bxk A b (nb b hb) z2, z3⟩
    · rcases G hj with ⟨rfl, rfl⟩ | ⟨n, q⟩
      · refine ⟨v, hv, k, fun a z => ?_⟩
        rcases kf a z with h | h
        · exact q3 a h
        · rw [h]; exact hb
      · obtain ⟨w, z1, z2, z3⟩ := R.ent j d q
        obtain ⟨y1, y2⟩ := other j d w n q z1
        exact ⟨w, z1, y1, fun a z => z3 a (y2 a z)⟩
    · rcases G h1 with ⟨rfl, rfl⟩ | ⟨n1, q⟩
      · rw [hv] at h3; cases h3
        rcases G h2 with ⟨rfl, rfl⟩ | ⟨n2, q2⟩
        · exact n rfl
        · have h6' := (other m d' w' n2 q2 h4).2 a h6
          rcases kf a h5 with h | h
          · exact R.sep j m e d' v w' a n he q2 hv h4 h h6'
          · rw [h] at h6'; exact hbo m d' w' n2 q2 h4 h6'
      · rcases G h2 with ⟨rfl, rfl⟩ | ⟨n2, q2⟩
        · rw [hv] at h4; cases h4
          have h5' := (other j d w n1 q h3).2 a h5
          rcases kf a h6 with h | h
          · exact R.sep j m d e w v a n q he h3 hv h5' h
          · rw [h] at h5'; exact hbo j d w n1 q h3 h5'
        · exact R.sep j m d d' w w' a n q q2 h3 h4 ((other j d w n1 q h3).2 a h5) ((other m d' w' n2 q2 h4).2 a h6)

theorem valM_mm {α : Type} {k : List Int} {v : α} {m : DM α} (h : valM m k = some v) : (k, v) ∈ m := by
  induction m with
  | nil => cases h
  | cons x m ih =>
    rw [valM_cons] at h
    by_cases e : x.1 = k
    · rw [if_pos e] at h
      cases h
      rw [← e]; exact List.mem_cons_self
    · rw [if_neg e] at h
      exact List.mem_cons_of_mem _ (ih h)
inductive IE where
  | sh (d : DM Int)
  | own (b : Addr) (d : DM Int)
def IE.d : IE → DM Int
  | .sh d => d
  | .own _ d => d
def IE.adr : IE → List Addr
  | .sh _ => []
  | .own b _ => [b]
section
variable {K : PySem.W.Frag} {P : Program} {w : World}
def iP (P : Program) (w : World) (K : PySem.W.Frag) (A H : Hp) (v : V) : IE → Prop
  | .sh d => qD P w K qI A v d
  | .own b d => v = .ref b ∧ A b = none ∧ ∃ ys, H b = some (DO P w b ys) ∧ KeysOk K A ys ∧ Paired (DPr qI A) ys d
def adrs (m : DM IE) : List Addr := m.flatMap fun x => x.2.adr
theorem mem_adrs {m : DM IE} {c : Addr} : c ∈ adrs m ↔ ∃ k d, (k, IE.own c d) ∈ m := by
  unfold adrs
  rw [List.mem_flatMap]
  constructor
  · rintro ⟨⟨k, ie⟩, h1, h2⟩
    cases ie with
    | sh d => cases h2
    | own b d => cases List.mem_singleton.mp h2; exact ⟨k, d, h1⟩
  · rintro ⟨k, d, h⟩
    exact ⟨_, h, List.mem_singleton.mpr rfl⟩
def DDr (P : Program) (w : World) (K : PySem.W.Frag) (A H : Hp) (x : List Int × Addr × V) (y : List Int × IE) : Prop := x.1 = y.1 ∧ iP P w K A H x.2.2 y.2
theorem iP_st {A H B H' : Hp} {v : V} {ie : IE} (h : iP P w K A H v ie) (l : Le A B) (k : ∀ b ∈ ie.adr, ∀ o, H b = some o → B b = none ∧ H' b = some o) : iP P w K B H' v ie := by
  cases ie with
  | sh d => exact Mono.le (r := qD P w K qI) l h
  | own b d =>
    obtain ⟨h1, h2, ys, h3, h4, h5⟩ := h
    obtain ⟨q1, q2⟩ := k b (List.mem_singleton.mpr rfl) _ h3
    exact ⟨h1, q1, ys, q2, keys_le l h4, dpr_le l h5⟩
theorem ddr_st {A H B H' : Hp} {xs : DV} {m : DM IE} (h : Paired (DDr P w K A H) xs m) (l : Le A B) (k : ∀ b ∈ adrs m, ∀ o, H b = some o → B b = none ∧ H' b = some o) : Paired (DDr P w K B H') xs m := by
  induction h with
  | nil => exact .nil
  | @cons x y _ _ h1 _ ih =>
    refine .cons ⟨h1.1, iP_st h1.2 l fun b hb => k b ?_⟩ (ih fun b hb => k b ?_)
    · unfold adrs; rw [List.flatMap_cons]; exact List.mem_append_left _ hb
    · unfold adrs; rw [List.flatMap_cons]; exact List.mem_append_right _ hb
theorem ddr_mem {A H : Hp} {xs : DV} {m : DM IE} (h : Paired (DDr P w K A H) xs m) {y : List Int × IE} (hy : y ∈ m) : ∃ v, iP P w K A H v y.2 := by
  induction h with
  | nil => cases hy
  | cons h1 _ ih =>
    rcases List.mem_cons.mp hy with e | hy
    · rw [e]; exact ⟨_, h1.2⟩
    · exact ih hy
/-- a dict of one's own at a, some of its inner dicts one's own too -/
def ownDD (P : Program) (w : World) (K : PySem.W.Frag) (a : Addr) (m : DM IE) : Ent where
  p := fun A H v => v = .ref a ∧ A a = none ∧ ∃ xs, H a = some (DO P w a xs) ∧ KeysOk K A xs ∧ Paired (DDr P w K A H) xs m ∧ (a :: adrs m).Nodup
  fp := fun _ _ c => c = a ∨ c ∈ adrs m
  ow := fun h e => by
    obtain ⟨_, h1, xs, h2, h3, h4, _⟩ := h
    rcases e with e | e
    · subst e; exact ⟨h1, _, h2⟩
    · obtain ⟨k, d, hm⟩ := mem_adrs.mp e
      obtain ⟨v, _, q2, ys, q3, _⟩ := ddr_mem h4 hm
      exact ⟨q2, _, q3⟩
  st := fun h l k => by
    obtain ⟨h0, h1, xs, h2, h3, h4, h5⟩ := h
    obtain ⟨q1, q2⟩ := k a _ (.inl rfl) h2
    exact ⟨⟨h0, q1, xs, q2, keys_le l h3, ddr_st h4 l fun b hb o => k b o (.inr hb), h5⟩, fun _ z => z⟩
variable {β : Option Addr} {Γ : EnvA} {α : Type} {tk te : TE}
theorem ddr_val {A H : Hp} {xs : DV} {m : DM IE} (h : Paired (DDr P w K A H) xs m) (k : List Int) : (valD xs k = none ∧ valM m k = none) ∨ ∃ v y, valD xs k = some v ∧ valM m k = some y ∧ iP P w K A H v y := by
  induction h with
  | nil => exact .inl ⟨rfl, rfl⟩
  | @cons p q ps qs h t ih =>
    obtain ⟨h1, h2⟩ := h
    by_cases e : p.1 = k
    · rw [valD_pos e, valM_cons, if_pos (h1.symm.trans e)]
      exact .inr ⟨_, _, rfl, rfl, h2⟩
    · rw [valD_neg e, valM_cons, if_neg (fun z => e (h1.trans z))]
      exact ih
/-- found.get(k, {}) where what stands there is in the base -/
theorem ev_ddget2 {i : Nat} {a : Addr} {m : DM IE} {k : List Int} {d : DM Int} (hΓ : Γ[i]? = some (some (ownDD P w K a m))) (hk : Ev β tk Γ (qTI K) (· = k)) (hd : valM m k = some (.sh d) ∨ (valM m k = none ∧ d = [])) :
    Ev β (tXGet2 P w K (tVar i) tk (tXNew P w)) Γ (qD P w K qI) (· = d) := fun H0 σ A H R Q q => by
  obtain ⟨v, hv, ⟨rfl, h1, xs, h2, h3, h4, h5⟩, h6⟩ := R.ent i _ hΓ
  have nb : β ≠ some a := fun z => by
    obtain ⟨_, _, o', q⟩ := R.bx a z
    rw [h6 a (.inl rfl)] at q; cases q
  refine ⟨_, hv, a, xs, rfl, .inl h2, hk H0 σ A H R _ fun u ks C H2 g2 pks ⟨b, eb, hb⟩ => fun p hp => ?_⟩
  subst pks
  have R2 := R.grow g2
  obtain ⟨v', hv', ⟨ev', h1', xs', h2', h3', h4', h5'⟩, h6'⟩ := R2.ent i _ hΓ
  have g3 : Grow β C H2 (upd C p (DO P w p [])) (upd H2 p (DO P w p [])) := Grow.new g2.sub hp
  have ne : a ≠ p := fun z => by rw [z, hp] at h2'; cases h2'
  refine ⟨xs', ks, b, .inl (by rw [upd_ne ne]; exact h2'), keys_le (g3.le.trans g3.sub.le) h3', eb, sqt_up g3.sub (g3.le.sqt hb), ?_⟩
  rcases ddr_val h4' ks with ⟨e1, e2⟩ | ⟨u2, y, e1, e2, e3⟩
  · rw [e1]
    rcases hd with hd | ⟨_, rfl⟩
    · rw [hd] at e2; cases e2
    · exact q (.ref p) [] _ _ (g2.trans g3) rfl ⟨p, [], rfl, .inl upd_same, (fun _ h => nomatch h), .nil⟩
  · rw [e1]
    rcases hd with hd | ⟨hd, _⟩
    · rw [hd] at e2; cases e2
      exact q u2 d _ _ (g2.trans g3) rfl (Mono.le (r := qD P w K qI) g3.le e3)
    · rw [hd] at e2; cases e2
/-- found.setdefault(k, {}) at the slot j -/
theorem tr_setdX {F : Fr} {D : Ends} {u : TS} {i j : Nat} {a : Addr} {m : DM IE} {k : List Int} (hij : i ≠ j) (hΓ : Γ[i]? = some (some (ownDD P w K a m))) (hk : Ev F.bx tk Γ (qTI K) (· = k)) (hz : m.length < 16777216) (ho : ∀ d, valM m k ≠ some (.sh d))
    (c : ∀ b d m', (valM m k = some (.own b d) ∧ m' = m) ∨ (valM m k = none ∧ d = [] ∧ b ∉ adrs m ∧ m' = m ++ [(k, .own b [])]) → Tr F ((Γ.set i (some (ownDD P w K a m'))).set j (some (boxE b))) u D) :
    Tr F Γ (tSeq (tAsg (tXSetd P w K (tVar i) tk (tXNew P w)) (gName j)) u) D := fun σ H ⟨A, le, g, R⟩ => by
  obtain ⟨v, hv, ⟨rfl, h1, xs, h2, h3, h4, h5⟩, h6⟩ := R.ent i _ hΓ
  refine ⟨_, hv, a, xs, rfl, .inl h2, hk F.H0 σ A H R _ fun y ks C H2 g2 pks ⟨b, eb, hb⟩ => fun p hp => ?_⟩
  subst pks
  have R2 := R.grow g2
  obtain ⟨v', hv', ⟨ev', h1', xs', h2', h3', h4', h5'⟩, h6'⟩ := R2.ent i _ hΓ
  rw [hv] at hv'; cases hv'
  have ne : a ≠ p := fun z => by rw [z, hp] at h2'; cases h2'
  have hCp : C p = none := g2.sub.no hp
  have g3 : Grow F.bx C H2 C (upd H2 p (DO P w p [])) := Grow.newOwn g2.sub hp
  have R3 := R2.grow g3
  have hl : xs'.length = m.length := Paired.length h4'
  obtain ⟨v3, hv3, ⟨ev3, h13, xs3, h23, h33, h43, h53⟩, h63⟩ := R3.ent i _ hΓ
  have le3 := (le.trans g2.le).trans g3.le
  have gg3 := (g.trans g2).trans g3
  refine ⟨xs', ks, b, by rw [upd_ne ne]; exact h2', keys_le g3.sub.le h3', eb, sqt_up g3.sub hb, by rw [PySem.sizeLine_eq]; omega, fun u hu => ?_, fun hu => ?_⟩
  · rcases ddr_val h4' ks with ⟨e1, _⟩ | ⟨u2, ie, e1, e2, e3⟩
    · rw [e1] at hu; cases hu
    · rw [e1] at hu; cases hu
      cases ie with
      | sh d => exact (ho d e2).elim
      | own b' d =>
        obtain ⟨rfl, _⟩ := e3
        refine c b' d m (.inl ⟨e2, rfl⟩) _ _ ⟨C, le3, gg3, ?_⟩
        have := R3.setF j (v := .ref b') (e := boxE b') rfl fun _ z => z
        rw [show Γ.set i (some (ownDD P w K a m)) = Γ from by
          apply List.ext_getElem?
          intro n
          by_cases q : i = n
          · subst q
            have hi : i < Γ.length := (List.getElem?_eq_some_iff.mp hΓ).1
            rw [List.getElem?_set_self hi, hΓ]
          · rw [List.getElem?_set_ne q]]
        exact this
  · have e2 : valM m ks = none := by
      rcases ddr_val h4' ks with ⟨_, e2⟩ | ⟨u2, ie, e1, _⟩
      · exact e2
      · rw [e1] at hu; cases hu
    have hpa : p ∉ adrs m := fun z => by
      obtain ⟨k', d', hm⟩ := mem_adrs.mp z
      obtain ⟨_, _, _, ys, q3, _⟩ := ddr_mem h4' hm
      rw [hp] at q3; cases q3
    have ad : adrs (m ++ [(ks, IE.own p [])]) = adrs m ++ [p] := by
      unfold adrs; rw [List.flatMap_append]; rfl
    have st := S.chg2 (F := F) (b := p) (e := ownDD P w K a m) (e' := ownDD P w K a (m ++ [(ks, .own p [])])) (l := a) (o := DO P w a (putD xs' ks b (.ref p))) le3 gg3 R3 hΓ hv (.inl rfl)
      ⟨rfl, h1', putD xs' ks b (.ref p), upd_same, h3'.put _ hb, by
        have e : putD xs' ks b (.ref p) = xs' ++ [(ks, b, .ref p)] := by unfold putD; rw [hu]; rfl
        rw [e]
        refine paired_snoc (ddr_st (H' := upd (upd H2 p (DO P w p [])) a (DO P w a (xs' ++ [(ks, b, .ref p)]))) h4' Le.refl fun c hc o ho' => ⟨?_, ?_⟩) ⟨rfl, rfl, hCp, [], ?_, (fun _ h => nomatch h), .nil⟩
        · obtain ⟨k', d', hm⟩ := mem_adrs.mp hc
          obtain ⟨_, _, q, _⟩ := ddr_mem h4' hm
          exact q
        · have n1 : c ≠ a := fun z => by
            rw [List.nodup_cons] at h5'
            exact h5'.1 (z ▸ hc)
          rw [upd_ne n1, upd_ne (fun z => by rw [z] at hc; exact hpa hc)]
          exact ho'
        · rw [upd_ne (fun z => ne z.symm), upd_same], by
        rw [ad, ← List.cons_append, List.nodup_append]
        refine ⟨h5', by simp, fun x hx z hz e => ?_⟩
        rw [List.mem_singleton.mp hz] at e
        rcases List.mem_cons.mp hx with q | q
        · exact ne (q.symm.trans e)
        · exact hpa (e ▸ q)⟩ (R2.h0 p hp) (fun n d w' hn k1 k2 k3 => by
        obtain ⟨w2, y1, y2, y3⟩ := R2.ent n d k1
        rw [k2] at y1; cases y1
        have q4 := d.st y2 g3.le fun c o fc hc => g3.own c o (fun z => by
          obtain ⟨_, _, o', q⟩ := R2.bx c z
          rw [y3 c fc] at q; cases q) (d.ow y2 fc).1 hc
        obtain ⟨_, o, q5⟩ := d.ow y2 (q4.2 p k3)
        rw [hp] at q5; cases q5) (fun c hc => by
        rcases hc with hc | hc
        · exact .inl (.inl hc)
        · rw [ad] at hc
          rcases List.mem_append.mp hc with hc | hc
          · exact .inl (.inr hc)
          · exact .inr (List.mem_singleton.mp hc))
    obtain ⟨A4, le4, g4, R4⟩ := st
    exact c p [] _ (.inr ⟨e2, rfl, hpa, rfl⟩) _ _ ⟨A4, le4, g4, R4.setF j (v := .ref p) (e := boxE p) rfl fun _ z => z⟩
theorem ddr_own {A H : Hp} {xs : DV} {m : DM IE} (h : Paired (DDr P w K A H) xs m) {b : Addr} {d : DM Int} (hb : ∃ k, (k, IE.own b d) ∈ m) : A b = none ∧ ∃ ys, H b = some (DO P w b ys) ∧ KeysOk K A ys ∧ Paired (DPr qI A) ys d := by
  obtain ⟨k, hm⟩ := hb
  obtain ⟨v, _, q2, ys, q3⟩ := ddr_mem h hm
  exact ⟨q2, ys, q3⟩
/-- the inner dict by its other name -/
theorem ed_alias {i j : Nat} {a b : Addr} {m : DM IE} {k : List Int} {d : DM Int} (hΓ : Γ[i]? = some (some (ownDD P w K a m))) (hj : Γ[j]? = some (some (boxE b))) (hm : valM m k = some (.own b d)) : EvD P w K β (tVar j) Γ qI (· = d) := fun H0 σ A H R Q q => by
  obtain ⟨v, hv, ⟨rfl, h1, xs, h2, h3, h4, h5⟩, h6⟩ := R.ent i _ hΓ
  obtain ⟨u, hu, eu, _⟩ := R.ent j _ hj
  have eu : u = .ref b := eu
  subst eu
  obtain ⟨q1, ys, q2, q3, q4⟩ := ddr_own h4 ⟨k, valM_mm hm⟩
  refine ⟨_, hu, q b ys d A H (Grow.refl R.sub) rfl (fun C H'' g2 => .inl (g2.own b _ (fun z => ?_) q1 q2).2) q3 q4⟩
  obtain ⟨_, _, o', q⟩ := R.bx b z
  rw [h6 b (.inr (mem_adrs.mpr ⟨k, d, valM_mm hm⟩))] at q; cases q
/-- there[kk] = v, there an inner dict of found -/
def setIn (m : DM IE) (b : Addr) (d : DM Int) : DM IE := m.map fun x => match x.2 with
  | .own c _ => if c = b then (x.1, .own b d) else x
  | .sh _ => x
theorem adrs_setIn (m : DM IE) (b : Addr) (d : DM Int) : adrs (setIn m b d) = adrs m := by
  unfold adrs setIn
  rw [List.flatMap_map]
  congr 1
  funext x
  obtain ⟨k, ie⟩ := x
  cases ie with
  | sh _ => rfl
  | own c e =>
    show IE.adr (if c = b then (k, IE.own b d) else (k, IE.own c e)).2 = [c]
    split
    · rename_i h; rw [h]; rfl
    · rfl
theorem tr_putIn {F : Fr} {D : Ends} {u : TS} {i j : Nat} {a b : Addr} {m : DM IE} {k0 kk : List Int} {d : DM Int} {x : Int} (hΓ : Γ[i]? = some (some (ownDD P w K a m))) (hj : Γ[j]? = some (some (boxE b))) (hm : valM m k0 = some (.own b d))
    (hv : Ev F.bx te Γ qI (· = x)) (hk : Ev F.bx tk Γ (qTI K) (· = kk)) (hz : d.length < 16777216)
    (c : Tr F (Γ.set i (some (ownDD P w K a (setIn m b (putM d kk x))))) u D) : Tr F Γ (tSeq (sXPut P w K (tVar j) tk te) u) D := fun σ H ⟨A, le, g, R⟩ => by
  refine hv F.H0 σ A H R _ fun v y B H1 g1 px rx => ?_
  subst px
  have R1 := R.grow g1
  obtain ⟨u1, hu1, eu1, _⟩ := R1.ent j _ hj
  have eu1 : u1 = .ref b := eu1
  subst eu1
  refine ⟨_, hu1, hk F.H0 σ B H1 R1 _ fun z ks C H2 g2 pks ⟨c2, eb, hb⟩ => ?_⟩
  subst pks
  have R2 := R1.grow g2
  obtain ⟨vd, hvd, ⟨rfl, h1, xs, h2, h3, h4, h5⟩, h6⟩ := R2.ent i _ hΓ
  obtain ⟨q1, ys, q2, q3, q4⟩ := ddr_own h4 ⟨k0, valM_mm hm⟩
  have hba : b ∈ adrs m := mem_adrs.mpr ⟨k0, d, valM_mm hm⟩
  have nba : a ≠ b := fun z => by
    rw [List.nodup_cons] at h5
    exact h5.1 (z ▸ hba)
  have hl : ys.length = d.length := Paired.length q4
  refine ⟨b, ys, ks, c2, rfl, q2, keys_le g2.sub.le q3, eb, sqt_up g2.sub hb, by rw [PySem.sizeLine_eq]; omega, c _ _ ?_⟩
  refine S.chg (e := ownDD P w K a m) (e' := ownDD P w K a (setIn m b (putM d ks y))) (v := .ref a) (l := b) ((le.trans g1.le).trans g2.le) ((g.trans g1).trans g2) R2 hΓ hvd (.inr hba)
    ⟨rfl, h1, xs, by rw [upd_ne nba]; exact h2, h3, ?_, by rw [adrs_setIn]; exact h5⟩ fun n z => by
      rcases z with z | z
      · exact .inl z
      · rw [adrs_setIn] at z; exact .inr z
  have nd : (adrs m).Nodup := (List.nodup_cons.mp h5).2
  have rx' : qI C v y := rx
  have new : iP P w K C (upd H2 b (DO P w b (putD ys ks c2 v))) (.ref b) (.own b (putM d ks y)) := ⟨rfl, q1, _, upd_same, q3.put v hb, dpr_put q4 ks c2 rx'⟩
  clear h5 hba hm h6 c
  unfold setIn
  have gen : ∀ {xs : DV} {m : DM IE}, Paired (DDr P w K C H2) xs m → (adrs m).Nodup → Paired (DDr P w K C (upd H2 b (DO P w b (putD ys ks c2 v)))) xs (m.map fun x => match x.2 with
      | .own c _ => if c = b then (x.1, .own b (putM d ks y)) else x
      | .sh _ => x) := by
    intro xs m h
    induction h with
    | nil => intro _; exact .nil
    | @cons p q ps qs hh t ih =>
      intro hn
      have ha : adrs (q :: qs) = q.2.adr ++ adrs qs := by unfold adrs; rw [List.flatMap_cons]
      rw [ha, List.nodup_append] at hn
      rw [List.map_cons]
      refine .cons ?_ (ih hn.2.1)
      obtain ⟨k', ie⟩ := q
      obtain ⟨e1, e2⟩ := hh
      cases ie with
      | sh e => exact ⟨e1, e2⟩
      | own c e =>
        show DDr P w K C _ p (if c = b then (k', IE.own b (putM d ks y)) else (k', IE.own c e))
        by_cases q : c = b
        · rw [if_pos q]
          subst q
          obtain ⟨ev, _⟩ := e2
          refine ⟨e1, ?_⟩
          show iP P w K C _ p.2.2 _
          rw [ev]; exact new
        · rw [if_neg q]
          refine ⟨e1, iP_st e2 Le.refl fun n hn' o ho => ?_⟩
          cases List.mem_singleton.mp hn'
          exact ⟨e2.2.1, by rw [upd_ne q]; exact ho⟩
  exact gen h4 nd
/-- an inner dict goes into the base -/
def shIn (m : DM IE) (b : Addr) : DM IE := m.map fun x => match x.2 with
  | .own c d => if c = b then (x.1, .sh d) else x
  | .sh _ => x
theorem adrs_shIn {m : DM IE} {b c : Addr} (h : c ∈ adrs (shIn m b)) : c ∈ adrs m ∧ c ≠ b := by
  obtain ⟨k, d, hm⟩ := mem_adrs.mp h
  unfold shIn at hm
  obtain ⟨⟨k', ie⟩, h1, h2⟩ := List.mem_map.mp hm
  cases ie with
  | sh e => cases h2
  | own c' e =>
    have h2 : (if c' = b then (k', IE.sh e) else (k', IE.own c' e)) = (k, IE.own c d) := h2
    by_cases q : c' = b
    · rw [if_pos q] at h2; cases h2
    · rw [if_neg q] at h2; cases h2
      exact ⟨mem_adrs.mpr ⟨_, _, h1⟩, q⟩
theorem nodup_shIn {b : Addr} : ∀ {m : DM IE}, (adrs m).Nodup → (adrs (shIn m b)).Nodup
  | [], _ => by simp [adrs, shIn]
  | (k, ie) :: m, h => by
    have ha : adrs ((k, ie) :: m) = ie.adr ++ adrs m := by unfold adrs; rw [List.flatMap_cons]
    rw [ha, List.nodup_append] at h
    have ih := nodup_shIn (b := b) h.2.1
    cases ie with
    | sh d => exact ih
    | own c d =>
      by_cases q : c = b
      · have e : shIn ((k, IE.own c d) :: m) b = (k, IE.sh d) :: shIn m b := by unfold shIn; rw [List.map_cons]; simp [q]
        rw [e]; exact ih
      · have e : shIn ((k, IE.own c d) :: m) b = (k, IE.own c d) :: shIn m b := by unfold shIn; rw [List.map_cons]; simp [q]
        rw [e]
        show ([c] ++ adrs (shIn m b)).Nodup
        rw [List.nodup_append]
        refine ⟨by simp, ih, fun x hx y hy e => ?_⟩
        exact h.2.2 x hx y (adrs_shIn hy).1 e
end
/-- what one owns goes into the base, the rest is kept -/
theorem S.shr2 {F : Fr} {Γ : EnvA} {σ : L2.St} {A H : Hp} {i : Nat} {e e' : Ent} {v : V} {l : Addr} {o : HO} (le : Le F.L A) (g : Grow F.bx F.A0 F.H0 A H) (R : Rel F.bx F.H0 Γ σ A H) (he : Γ[i]? = some (some e)) (hv : σ[i]? = some (some v)) (hl : e.fp H v l)
    (ho : H l = some o) (k : e'.p (upd A l o) H v) (kf : ∀ a, e'.fp H v a → e.fp H v a) : S F (Γ.set i (some e')) σ H := by
  obtain ⟨v', q1, q2, q3⟩ := R.ent i e he
  rw [hv] at q1; cases q1
  obtain ⟨hAl, u, hu⟩ := e.ow q2 hl
  have hl0 := q3 l hl
  have nb : ∀ b, F.bx = some b → b ≠ l := fun b hb z => by
    obtain ⟨_, _, o', q⟩ := R.bx b hb
    rw [z, hl0] at q; cases q
  have lA : Le A (upd A l o) := le_new hAl
  have sb : Sub (upd A l o) H := fun a w z => by
    by_cases q : a = l
    · subst q; rw [upd_same] at z; cases z; exact ho
    · rw [upd_ne q] at z; exact R.sub a w z
  have hi : i < Γ.length := by
    by_cases z : i < Γ.length
    · exact z
    · rw [List.getElem?_eq_none (by omega)] at he; cases he
  have G : ∀ {j : Nat} {d : Ent}, (Γ.set i (some e'))[j]? = some (some d) → (j = i ∧ d = e') ∨ (j ≠ i ∧ Γ[j]? = some (some d)) := by
    intro j d hj
    by_cases q : i = j
    · subst q
      rw [List.getElem?_set_self hi] at hj
      exact .inl ⟨rfl, (Option.some.inj (Option.some.inj hj)).symm⟩
    · rw [List.getElem?_set_ne q] at hj
      exact .inr ⟨fun z => q z.symm, hj⟩
  refine ⟨upd A l o, le.trans lA, ⟨g.le.trans lA, sb, fun a w n h1 h2 => ?_, fun b n h1 h2 => ?_⟩, ⟨sb, by rw [List.length_set]; exact R.len, R.h0, fun b hb => ?_, fun j d hj => ?_, fun j m d d' w w' a n h1 h2 h3 h4 h5 h6 => ?_⟩⟩
  · obtain ⟨z1, z2⟩ := g.own a w n h1 h2
    exact ⟨by rw [upd_ne (fun z => by rw [z, hl0] at h2; cases h2)]; exact z1, z2⟩
  · obtain ⟨z1, z2⟩ := g.box b n h1 h2
    exact ⟨by rw [upd_ne (nb b n)]; exact z1, z2.le lA⟩
  · obtain ⟨z1, z2, z3⟩ := R.bx b hb
    exact ⟨by rw [upd_ne (nb b hb)]; exact z1, z2.le lA, z3⟩
  · rcases G hj with ⟨rfl, rfl⟩ | ⟨n, q⟩
    · exact ⟨v, hv, k, fun a z => q3 a (kf a z)⟩
    · obtain ⟨w, z1, z2, z3⟩ := R.ent j d q
      obtain ⟨y1, y2⟩ := d.st z2 lA fun a u' fa ha => ⟨by
        rw [upd_ne (fun z => R.sep i j e d v w l (fun q => n q.symm) he q hv z1 hl (by rw [← z]; exact fa))]
        exact (d.ow z2 fa).1, ha⟩
      exact ⟨w, z1, y1, z3⟩
  · rcases G h1 with ⟨rfl, rfl⟩ | ⟨n1, q⟩
    · rw [hv] at h3; cases h3
      rcases G h2 with ⟨rfl, rfl⟩ | ⟨n2, q2⟩
      · exact n rfl
      · exact R.sep j m e d' v w' a n he q2 hv h4 (kf a h5) h6
    · rcases G h2 with ⟨rfl, rfl⟩ | ⟨n2, q2⟩
      · rw [hv] at h4; cases h4
        exact R.sep j m d e w v a n q he h3 hv h5 (kf a h6)
      · exact R.sep j m d d' w w' a n q q2 h3 h4 h5 h6
/-- a thing seen as another -/
theorem S.conv {F : Fr} {Γ : EnvA} {σ : L2.St} {H : Hp} {i : Nat} {e e' : Ent} (s : S F Γ σ H) (he : Γ[i]? = some (some e)) (k : ∀ A v, e.p A H v → e'.p A H v) (kf : ∀ A v a, e.p A H v → e'.fp H v a → e.fp H v a) : S F (Γ.set i (some e')) σ H := by
  obtain ⟨A, le, g, R⟩ := s
  obtain ⟨v, q1, q2, q3⟩ := R.ent i e he
  have h := R.set i (v := v) (e := e') (k A v q2) (fun a z => q3 a (kf A v a q2 z)) fun a z j e2 v2 n h1 h2 h3 => R.sep i j e e2 v v2 a (fun q => n q.symm) he h1 q1 h2 (kf A v a q2 z) h3
  rw [show σ.set i (some v) = σ from by
    apply List.ext_getElem?
    intro n
    by_cases q : i = n
    · subst q
      have hi : i < σ.length := (List.getElem?_eq_some_iff.mp q1).1
      rw [List.getElem?_set_self hi, q1]
    · rw [List.getElem?_set_ne q]] at h
  exact ⟨A, le, g, h⟩
section
variable {K : PySem.W.Frag} {P : Program} {w : World} {Γ : EnvA} {F : Fr} {D : Ends} {t : TS} {i : Nat} {a : Addr} {m : DM IE}
theorem tr_shareIn {k : List Int} {b : Addr} {d : DM Int} (hΓ : Γ[i]? = some (some (ownDD P w K a m))) (hm : valM m k = some (.own b d)) (c : Tr F (Γ.set i (some (ownDD P w K a (shIn m b)))) t D) : Tr F Γ t D := fun σ H ⟨A, le, g, R⟩ => by
  obtain ⟨v, hv, ⟨rfl, h1, xs, h2, h3, h4, h5⟩, h6⟩ := R.ent i _ hΓ
  obtain ⟨q1, ys, q2, q3, q4⟩ := ddr_own h4 ⟨k, valM_mm hm⟩
  have hba : b ∈ adrs m := mem_adrs.mpr ⟨k, d, valM_mm hm⟩
  have nba : a ≠ b := fun z => by
    rw [List.nodup_cons] at h5
    exact h5.1 (z ▸ hba)
  have lA : Le A (upd A b (DO P w b ys)) := le_new q1
  have nd : (adrs m).Nodup := (List.nodup_cons.mp h5).2
  refine c σ H (S.shr2 (e := ownDD P w K a m) (e' := ownDD P w K a (shIn m b)) (l := b) (o := DO P w b ys) le g R hΓ hv (.inr hba) q2 ⟨rfl, by rw [upd_ne nba]; exact h1, xs, h2, keys_le lA h3, ?_, ?_⟩ fun n z => ?_)
  · have sh : ∀ e, iP P w K A H (.ref b) (.own b e) → iP P w K (upd A b (DO P w b ys)) H (.ref b) (.sh d) := fun e _ => ⟨b, ys, rfl, .inl upd_same, keys_le lA q3, dpr_le lA q4⟩
    clear h5 hba hm h6 c
    have gen : ∀ {xs : DV} {m : DM IE}, Paired (DDr P w K A H) xs m → (adrs m).Nodup → Paired (DDr P w K (upd A b (DO P w b ys)) H) xs (m.map fun x => match x.2 with
        | .own c e => if c = b then (x.1, .sh e) else x
        | .sh _ => x) → True := fun _ _ _ => trivial
    unfold shIn
    have uniq : ∀ {c e k'}, (k', IE.own c e) ∈ m → c = b → e = d ∨ True := fun _ _ => .inr trivial
    have gen2 : ∀ {xs : DV} {m' : DM IE}, Paired (DDr P w K A H) xs m' → (∀ y ∈ m', y ∈ m) → Paired (DDr P w K (upd A b (DO P w b ys)) H) xs (m'.map fun x => match x.2 with
        | .own c e => if c = b then (x.1, .sh e) else x
        | .sh _ => x) := by
      intro xs m' h
      induction h with
      | nil => intro _; exact .nil
      | @cons p q ps qs hh t ih =>
        intro hs
        rw [List.map_cons]
        refine .cons ?_ (ih fun y hy => hs y (List.mem_cons_of_mem _ hy))
        obtain ⟨k', ie⟩ := q
        obtain ⟨e1, e2⟩ := hh
        cases ie with
        | sh e => exact ⟨e1, Mono.le (r := qD P w K qI) lA e2⟩
        | own c e =>
          show DDr P w K _ H p (if c = b then (k', IE.sh e) else (k', IE.own c e))
          by_cases q : c = b
          · rw [if_pos q]
            subst q
            obtain ⟨ev, z1, ys', z2, z3, z4⟩ := e2
            refine ⟨e1, ?_⟩
            show qD P w K qI _ p.2.2 e
            rw [ev]
            refine ⟨c, ys', rfl, .inl ?_, keys_le lA z3, dpr_le lA z4⟩
            rw [upd_same]
            rw [q2] at z2
            exact z2
          · rw [if_neg q]
            refine ⟨e1, iP_st e2 lA fun n hn' o ho => ?_⟩
            cases List.mem_singleton.mp hn'
            exact ⟨by rw [upd_ne q]; exact e2.2.1, ho⟩
    exact gen2 h4 fun y hy => hy
  · rw [List.nodup_cons]
    exact ⟨fun z => (List.nodup_cons.mp h5).1 (adrs_shIn z).1, nodup_shIn nd⟩
  · rcases z with z | z
    · exact .inl z
    · exact .inr (adrs_shIn z).1
theorem ddr_all {A H : Hp} {xs : DV} {m : DM IE} (h : Paired (DDr P w K A H) xs m) : adrs m = [] → Paired (DPr (qD P w K qI) A) xs (m.map fun x => (x.1, x.2.d)) := by
  induction h with
  | nil => intro _; exact .nil
  | @cons p q ps qs hh t ih =>
    intro hs
    have ha : adrs (q :: qs) = q.2.adr ++ adrs qs := by unfold adrs; rw [List.flatMap_cons]
    rw [ha, List.append_eq_nil_iff] at hs
    rw [List.map_cons]
    refine .cons ?_ (ih hs.2)
    obtain ⟨k', ie⟩ := q
    obtain ⟨e1, e2⟩ := hh
    cases ie with
    | sh e => exact ⟨e1, e2⟩
    | own c e => cases hs.1
/-- all inner dicts are in the base -/
theorem tr_allSh (hΓ : Γ[i]? = some (some (ownDD P w K a m))) (hs : adrs m = []) (c : Tr F (Γ.set i (some (ownD P w K (qD P w K qI) (m.map fun x => (x.1, x.2.d))))) t D) : Tr F Γ t D := fun σ H s => by
  refine c σ H (S.conv (e := ownDD P w K a m) (e' := ownD P w K (qD P w K qI) (m.map fun x => (x.1, x.2.d))) s hΓ (fun A v h => ?_) fun A v n h z => ?_)
  · obtain ⟨rfl, h1, xs, h2, h3, h4, h5⟩ := h
    refine ⟨a, xs, rfl, h1, h2, h3, ?_⟩
    exact ddr_all h4 hs
  · obtain ⟨rfl, _⟩ := h
    have z : V.ref a = .ref n := z
    cases z
    exact .inl rfl
end
section
variable {K : PySem.W.Frag} {P : Program} {w : World} {Γ : EnvA} {F : Fr} {D : Ends} {t : TS} {i : Nat}
theorem adrs_sh (d : DM (DM Int)) : adrs (d.map fun x => (x.1, IE.sh x.2)) = [] := by
  induction d with
  | nil => rfl
  | cons x d ih => unfold adrs at ih ⊢; rw [List.map_cons, List.flatMap_cons, ih]; rfl
theorem ddr_sh {A H : Hp} {xs : DV} {d : DM (DM Int)} (h : Paired (DPr (qD P w K qI) A) xs d) : Paired (DDr P w K A H) xs (d.map fun x => (x.1, IE.sh x.2)) := by
  induction h with
  | nil => exact .nil
  | cons h1 _ ih => exact .cons ⟨h1.1, h1.2⟩ ih
theorem tr_toDD {d : DM (DM Int)} (hΓ : Γ[i]? = some (some (ownD P w K (qD P w K qI) d))) (c : ∀ a, Tr F (Γ.set i (some (ownDD P w K a (d.map fun x => (x.1, .sh x.2))))) t D) : Tr F Γ t D := fun σ H s => by
  obtain ⟨A, le, g, R⟩ := id s
  obtain ⟨v, q1, ⟨a, xs, rfl, h1, h2, h3, h4⟩, q3⟩ := R.ent i _ hΓ
  refine c a σ H ?_
  have hR := R.set i (v := .ref a) (e := ownDD P w K a (d.map fun x => (x.1, .sh x.2))) ⟨rfl, h1, xs, h2, h3, ddr_sh h4, by rw [adrs_sh]; simp⟩ (fun n z => by
    rcases z with z | z
    · rw [z]; exact q3 a rfl
    · rw [adrs_sh] at z; cases z) fun n z j e2 v2 ne y1 y2 => by
    rcases z with z | z
    · rw [z]; exact R.sep i j _ e2 (.ref a) v2 a (fun q => ne q.symm) hΓ y1 q1 y2 rfl
    · rw [adrs_sh] at z; cases z
  rw [show σ.set i (some (.ref a)) = σ from by
    apply List.ext_getElem?
    intro n
    by_cases q : i = n
    · subst q
      have hi : i < σ.length := (List.getElem?_eq_some_iff.mp q1).1
      rw [List.getElem?_set_self hi, q1]
    · rw [List.getElem?_set_ne q]] at hR
  exact ⟨A, le, g, hR⟩
end
end Rf
/-! Mf: weights on dicts of dicts. -/
namespace Rf
open PySem

def inn (f : List Int → Int) (d : DM Int) : Int := (d.map fun y => y.2 * f y.1).sum
def totI (wt : List Int → List Int → Int) (m : DM IE) : Int := (m.map fun x => inn (wt x.1) x.2.d).sum
def tot (wt : List Int → List Int → Int) (m : DM (DM Int)) : Int := (m.map fun x => inn (wt x.1) x.2).sum
theorem inn_nil {f : List Int → Int} : inn f [] = 0 := rfl
theorem inn_cons {f : List Int → Int} {y : List Int × Int} {d : DM Int} : inn f (y :: d) = y.2 * f y.1 + inn f d := by unfold inn; rw [List.map_cons, List.sum_cons]
theorem inn_append {f : List Int → Int} {y : List Int × Int} : ∀ {d : DM Int}, inn f (d ++ [y]) = inn f d + y.2 * f y.1
  | [] => by rw [List.nil_append, inn_cons, inn_nil]; omega
  | z :: d => by rw [List.cons_append, inn_cons, inn_cons, inn_append]; omega
theorem inn_map {f : List Int → Int} {k : List Int} {v : Int} : ∀ {d : DM Int}, (keysM d).Nodup → k ∈ keysM d → inn f (d.map fun x => if x.1 = k then (x.1, v) else x) = inn f d + (v - (valM d k).getD 0) * f k
  | [], _, h => by cases h
  | y :: d, hn, hk => by
    unfold keysM at hn hk
    rw [List.map_cons, List.nodup_cons] at hn
    rw [List.map_cons, inn_cons, inn_cons, valM_cons]
    by_cases e : y.1 = k
    · have hd : ∀ x ∈ d, x.1 ≠ k := fun x hx z => hn.1 (by rw [e, ← z]; exact List.mem_map_of_mem hx)
      have em : (d.map fun x => if x.1 = k then (x.1, v) else x) = d := by
        conv => rhs; rw [← List.map_id d]
        apply List.map_congr_left
        intro x hx
        rw [if_neg (hd x hx)]; rfl
      rw [em, if_pos e, if_pos e]
      subst e
      show v * f y.1 + inn f d = y.2 * f y.1 + inn f d + (v - y.2) * f y.1
      rw [Int.sub_mul]; omega
    · have hk' : k ∈ keysM d := by
        rw [List.map_cons, List.mem_cons] at hk
        rcases hk with h | h
        · exact (e h.symm).elim
        · exact h
      rw [if_neg e, if_neg e, inn_map hn.2 hk']; omega
theorem inn_add {f : List Int → Int} {d : DM Int} {k : List Int} {v : Int} (hn : (keysM d).Nodup) : inn f (addM d k v) = inn f d + v * f k := by
  unfold addM putM
  by_cases h : (valM d k).isSome = true
  · rw [if_pos h]
    have hk : k ∈ keysM d := by
      apply Decidable.byContradiction
      intro z
      rw [valM_none.mpr z] at h; cases h
    rw [inn_map hn hk]
    have : (valM d k).getD 0 + v - (valM d k).getD 0 = v := by omega
    rw [this]
  · rw [if_neg h, inn_append]
    have : valM d k = none := by
      cases z : valM d k with
      | none => rfl
      | some y => rw [z] at h; exact (h rfl).elim
    rw [this]
    show _ + (0 + v) * f k = _
    rw [Int.zero_add]
theorem inn_plus {f g : List Int → Int} : ∀ {d : DM Int}, inn (fun a => f a + g a) d = inn f d + inn g d
  | [] => rfl
  | y :: d => by rw [inn_cons, inn_cons, inn_cons, inn_plus, Int.mul_add]; omega
theorem inn_congr {f g : List Int → Int} : ∀ {d : DM Int}, (∀ y ∈ d, f y.1 = g y.1) → inn f d = inn g d
  | [], _ => rfl
  | y :: d, h => by rw [inn_cons, inn_cons, h y List.mem_cons_self, inn_congr fun z hz => h z (List.mem_cons_of_mem _ hz)]
theorem inn_nonneg {f : List Int → Int} : ∀ {d : DM Int}, (∀ y ∈ d, 0 ≤ y.2 ∧ 0 ≤ f y.1) → 0 ≤ inn f d
  | [], _ => Int.le_refl _
  | y :: d, h => by
    rw [inn_cons]
    have := inn_nonneg (f := f) (d := d) fun z hz => h z (List.mem_cons_of_mem _ hz)
    have h0 := h y List.mem_cons_self
    have := Int.mul_nonneg h0.1 h0.2
    omega
/-- sizes by a weight of one at least -/
theorem inn_size {f : List Int → Int} {B : Int} : ∀ {d : DM Int}, (∀ y ∈ d, 0 < y.2 ∧ 1 ≤ f y.1) → inn f d ≤ B → (d.length : Int) ≤ B ∧ ∀ y ∈ d, y.2 ≤ B
  | [], _, hB => ⟨hB, fun _ h => by cases h⟩
  | y :: d, h, hB => by
    rw [inn_cons] at hB
    have h0 := h y List.mem_cons_self
    have h1 : y.2 * 1 ≤ y.2 * f y.1 := Int.mul_le_mul_of_nonneg_left h0.2 (by omega)
    have hn : 0 ≤ inn f d := inn_nonneg fun z hz => by
      have := h z (List.mem_cons_of_mem _ hz)
      omega
    obtain ⟨q1, q2⟩ := inn_size (f := f) (B := B - y.2) (d := d) (fun z hz => h z (List.mem_cons_of_mem _ hz)) (by omega)
    refine ⟨by rw [List.length_cons]; omega, fun z hz => ?_⟩
    rcases List.mem_cons.mp hz with e | hz
    · rw [e]; omega
    · have := q2 z hz; omega
theorem totI_cons {wt : List Int → List Int → Int} {x : List Int × IE} {m : DM IE} : totI wt (x :: m) = inn (wt x.1) x.2.d + totI wt m := by unfold totI; rw [List.map_cons, List.sum_cons]
theorem totI_append {wt : List Int → List Int → Int} {x : List Int × IE} : ∀ {m : DM IE}, totI wt (m ++ [x]) = totI wt m + inn (wt x.1) x.2.d
  | [] => by rw [List.nil_append, totI_cons]; show _ + 0 = 0 + _; omega
  | z :: m => by rw [List.cons_append, totI_cons, totI_cons, totI_append]; omega
theorem totI_congr {wt wt' : List Int → List Int → Int} : ∀ {m : DM IE}, (∀ x ∈ m, inn (wt x.1) x.2.d = inn (wt' x.1) x.2.d) → totI wt m = totI wt' m
  | [], _ => rfl
  | x :: m, h => by rw [totI_cons, totI_cons, h x List.mem_cons_self, totI_congr fun z hz => h z (List.mem_cons_of_mem _ hz)]
theorem totI_sh {wt : List Int → List Int → Int} {b : Addr} : ∀ {m : DM IE}, totI wt (shIn m b) = totI wt m
  | [] => rfl
  | (k, ie) :: m => by
    have ih := totI_sh (wt := wt) (b := b) (m := m)
    unfold shIn at ih ⊢
    rw [List.map_cons, totI_cons, totI_cons, ih]
    cases ie with
    | sh d => rfl
    | own c d =>
      show inn (wt (if c = b then (k, IE.sh d) else (k, IE.own c d)).1) (if c = b then (k, IE.sh d) else (k, IE.own c d)).2.d + _ = _
      split <;> rfl
theorem setIn_out {b : Addr} {d : DM Int} : ∀ {m : DM IE}, b ∉ adrs m → setIn m b d = m
  | [], _ => rfl
  | (k, ie) :: m, h => by
    have ha : adrs ((k, ie) :: m) = ie.adr ++ adrs m := by unfold adrs; rw [List.flatMap_cons]
    rw [ha, List.mem_append, not_or] at h
    have ih := setIn_out (d := d) h.2
    unfold setIn at ih ⊢
    rw [List.map_cons, ih]
    cases ie with
    | sh e => rfl
    | own c e =>
      have : ¬ c = b := fun z => h.1 (by rw [z]; exact List.mem_singleton.mpr rfl)
      show (if c = b then _ else _) :: m = _
      rw [if_neg this]
theorem totI_set {wt : List Int → List Int → Int} {b : Addr} {d d' : DM Int} {k : List Int} : ∀ {m : DM IE}, (adrs m).Nodup → (k, IE.own b d) ∈ m → totI wt (setIn m b d') = totI wt m - inn (wt k) d + inn (wt k) d'
  | [], _, h => by cases h
  | (k', ie) :: m, hn, hm => by
    have ha : adrs ((k', ie) :: m) = ie.adr ++ adrs m := by unfold adrs; rw [List.flatMap_cons]
    rw [ha, List.nodup_append] at hn
    rcases List.mem_cons.mp hm with e | hm
    · cases e
      have out : b ∉ adrs m := fun z => hn.2.2 b (List.mem_singleton.mpr rfl) b z rfl
      have e : setIn ((k, IE.own b d) :: m) b d' = (k, IE.own b d') :: m := by
        have := setIn_out (d := d') out
        unfold setIn at this ⊢
        rw [List.map_cons, this]
        show (if b = b then _ else _) :: m = _
        rw [if_pos rfl]
      rw [e, totI_cons, totI_cons]
      show inn (wt k) d' + _ = inn (wt k) d + _ - inn (wt k) d + _
      omega
    · have ih := totI_set (wt := wt) (d' := d') hn.2.1 hm
      have hb : b ∈ adrs m := mem_adrs.mpr ⟨k, d, hm⟩
      have e : setIn ((k', ie) :: m) b d' = (k', ie) :: setIn m b d' := by
        unfold setIn
        rw [List.map_cons]
        cases ie with
        | sh e => rfl
        | own c e =>
          have : ¬ c = b := fun z => hn.2.2 c (List.mem_singleton.mpr rfl) b hb z
          show (if c = b then _ else _) :: _ = _
          rw [if_neg this]
      rw [e, totI_cons, totI_cons, ih]; omega
theorem totI_ge {wt : List Int → List Int → Int} {k : List Int} {ie : IE} : ∀ {m : DM IE}, (∀ x ∈ m, 0 ≤ inn (wt x.1) x.2.d) → (k, ie) ∈ m → inn (wt k) ie.d ≤ totI wt m
  | [], _, h => by cases h
  | x :: m, h, hm => by
    have nn : ∀ {m : DM IE}, (∀ x ∈ m, 0 ≤ inn (wt x.1) x.2.d) → 0 ≤ totI wt m := by
      intro m
      induction m with
      | nil => intro _; exact Int.le_refl _
      | cons x m ih =>
        intro h
        rw [totI_cons]
        have := h x List.mem_cons_self
        have := ih fun z hz => h z (List.mem_cons_of_mem _ hz)
        omega
    rw [totI_cons]
    have h1 := nn fun z hz => h z (List.mem_cons_of_mem _ hz)
    have h0 := h x List.mem_cons_self
    rcases List.mem_cons.mp hm with e | hm
    · cases e; show inn (wt k) ie.d ≤ inn (wt k) ie.d + _; omega
    · have := totI_ge (fun z hz => h z (List.mem_cons_of_mem _ hz)) hm
      omega
theorem nodup_sub {α : Type} [DecidableEq α] : ∀ {l l' : List α}, l.Nodup → (∀ a ∈ l, a ∈ l') → l.length ≤ l'.length
  | [], _, _, _ => Nat.zero_le _
  | a :: l, l', hn, hs => by
    rw [List.nodup_cons] at hn
    have ha := hs a List.mem_cons_self
    have := nodup_sub (l' := l'.erase a) hn.2 fun b hb => by
      rw [List.mem_erase_of_ne (fun z => hn.1 (by rw [← z]; exact hb))]
      exact hs b (List.mem_cons_of_mem _ hb)
    rw [List.length_erase_of_mem ha] at this
    have h0 : 0 < l'.length := List.length_pos_of_mem ha
    rw [List.length_cons]; omega
theorem valM_keys {m : DM IE} {m' : DM IE} (h : ∀ k, (valM m k).isSome = (valM m' k).isSome) (k : List Int) : k ∈ keysM m ↔ k ∈ keysM m' := by
  have := h k
  constructor
  · intro hk
    apply Decidable.byContradiction
    intro z
    rw [valM_none.mpr z] at this
    have : valM m k = none := by
      cases q : valM m k with
      | none => rfl
      | some y => rw [q] at this; cases this
    exact valM_none.mp this hk
  · intro hk
    apply Decidable.byContradiction
    intro z
    rw [valM_none.mpr z] at this
    have : valM m' k = none := by
      cases q : valM m' k with
      | none => rfl
      | some y => rw [q] at this; cases this
    exact valM_none.mp this hk
theorem keys_setIn (m : DM IE) (b : Addr) (d : DM Int) : keysM (setIn m b d) = keysM m := by
  unfold keysM setIn
  rw [List.map_map]
  apply List.map_congr_left
  rintro ⟨k, ie⟩ _
  cases ie with
  | sh _ => rfl
  | own c e =>
    show (if c = b then (k, IE.own b d) else (k, IE.own c e)).1 = k
    split <;> rfl
theorem keys_shIn (m : DM IE) (b : Addr) : keysM (shIn m b) = keysM m := by
  unfold keysM shIn
  rw [List.map_map]
  apply List.map_congr_left
  rintro ⟨k, ie⟩ _
  cases ie with
  | sh _ => rfl
  | own c e =>
    show (if c = b then (k, IE.sh e) else (k, IE.own c e)).1 = k
    split <;> rfl
theorem mem_setIn {m : DM IE} {b : Addr} {d : DM Int} {k : List Int} {ie : IE} (h : (k, ie) ∈ setIn m b d) : (ie = .own b d ∧ ∃ e, (k, IE.own b e) ∈ m) ∨ ((k, ie) ∈ m ∧ ∀ e, ie ≠ .own b e) := by
  unfold setIn at h
  obtain ⟨⟨k', ie'⟩, h1, h2⟩ := List.mem_map.mp h
  cases ie' with
  | sh e =>
    cases h2
    exact .inr ⟨h1, fun _ z => by cases z⟩
  | own c e =>
    have h2 : (if c = b then (k', IE.own b d) else (k', IE.own c e)) = (k, ie) := h2
    by_cases q : c = b
    · rw [if_pos q] at h2
      cases h2
      subst q
      exact .inl ⟨rfl, e, h1⟩
    · rw [if_neg q] at h2
      cases h2
      exact .inr ⟨h1, fun e' z => by cases z; exact q rfl⟩
theorem mem_shIn {m : DM IE} {b : Addr} {k : List Int} {ie : IE} (h : (k, ie) ∈ shIn m b) : (∃ d, ie = .sh d ∧ (k, IE.own b d) ∈ m) ∨ ((k, ie) ∈ m ∧ ∀ e, ie ≠ .own b e) := by
  unfold shIn at h
  obtain ⟨⟨k', ie'⟩, h1, h2⟩ := List.mem_map.mp h
  cases ie' with
  | sh e =>
    cases h2
    exact .inr ⟨h1, fun _ z => by cases z⟩
  | own c e =>
    have h2 : (if c = b then (k', IE.sh e) else (k', IE.own c e)) = (k, ie) := h2
    by_cases q : c = b
    · rw [if_pos q] at h2
      cases h2
      subst q
      exact .inl ⟨e, rfl, h1⟩
    · rw [if_neg q] at h2
      cases h2
      exact .inr ⟨h1, fun e' z => by cases z; exact q rfl⟩
end Rf
/-! Mg: what ways_from keeps, in plain words. -/
namespace Rf
open PySem
def zeroV (sc : Sc) : List Int := List.replicate sc.size.toNat 0
/-- G is what C counts, summed over the moves -/
def Rec (sc : Sc) (x y : List Nat) (G C : List Int → List Int → Int) : Prop := ∀ (i j : Nat) (k : Int), i ≤ x.length → j ≤ y.length → (k = 0 ∨ k = 1 ∨ k = 2) → ∀ a : List Int, a.length = sc.size.toNat →
  G [(i : Int), (j : Int), k] a = C [(i : Int), (j : Int), k] a + ((movesF sc x y i j k).map fun mv => G mv.2.1 (zw (· + ·) a mv.2.2)).sum
def wtF (G C : List Int → List Int → Int) (P : List (List Int)) (k a : List Int) : Int := if k ∈ P then C k a else G k a
def wtM (G C : List Int → List Int → Int) (P : List (List Int)) (z : List Int) (mvs : List (Int × List Int × List Int)) (k a : List Int) : Int := if k = z then C z a + (mvs.map fun mv => G mv.2.1 (zw (· + ·) a mv.2.2)).sum else wtF G C P k a
/-- how many ways there are on from a node -/
def G1 (sc : Sc) (x y : List Nat) (key _a : List Int) : Int := ((Suf sc x y (key.getD 0 0).toNat (key.getD 1 0).toNat (key.getD 2 0)).length : Int)
def C1 (x y : List Nat) (key _a : List Int) : Int := if x.length ≤ (key.getD 0 0).toNat ∧ y.length ≤ (key.getD 1 0).toNat then 1 else 0
theorem G1_node (sc : Sc) (x y : List Nat) (i j : Nat) (k : Int) (a : List Int) : G1 sc x y [(i : Int), (j : Int), k] a = ((Suf sc x y i j k).length : Int) := rfl
theorem sum_len {α : Type} {γ : Type} (f : α → List γ) : ∀ l : List α, (((l.flatMap f).length : Nat) : Int) = (l.map fun a => ((f a).length : Int)).sum
  | [] => rfl
  | a :: l => by rw [List.flatMap_cons, List.length_append, List.map_cons, List.sum_cons, ← sum_len f l]; omega
theorem rec1 (sc : Sc) {x y : List Nat} (ox : okW x) (oy : okW y) : Rec sc x y (G1 sc x y) (C1 x y) := by
  intro i j k hi hj hk a ha
  rw [G1_node]
  by_cases h : x.length ≤ i ∧ y.length ≤ j
  · rw [suf_end sc x y i j k h.1 h.2, moves_end h.1 h.2]
    have : C1 x y [(i : Int), (j : Int), k] a = 1 := if_pos h
    rw [this]; rfl
  · rw [suf_moves sc x y ox oy i j k h, sum_len]
    have : C1 x y [(i : Int), (j : Int), k] a = 0 := if_neg h
    rw [this, Int.zero_add]
    congr 1
    apply List.map_congr_left
    intro mv hm
    obtain ⟨i', j', e1, e2, _⟩ := move_shape hm hi hj
    rw [List.length_map, e2, e1, G1_node]
theorem dl_pos : ∀ n m : Nat, 1 ≤ dl n m
  | 0, 0 => by unfold dl; exact Nat.le_refl _
  | n + 1, 0 => by unfold dl; exact dl_pos n 0
  | 0, m + 1 => by unfold dl; exact dl_pos 0 m
  | n + 1, m + 1 => by unfold dl; have := dl_pos n m; omega
theorem G1_pos (sc : Sc) (x y : List Nat) (k a : List Int) : 1 ≤ G1 sc x y k a := by
  unfold G1 Suf
  rw [List.length_map, al_len]
  have := dl_pos ((x.drop (k.getD 0 0).toNat).length) ((y.drop (k.getD 1 0).toNat).length)
  omega
theorem C1_nonneg (x y : List Nat) (k a : List Int) : 0 ≤ C1 x y k a := by unfold C1; split <;> omega
theorem sum_nonneg : ∀ {l : List Int}, (∀ a ∈ l, 0 ≤ a) → 0 ≤ l.sum
  | [], _ => Int.le_refl _
  | a :: l, h => by
    rw [List.sum_cons]
    have := sum_nonneg (l := l) fun b hb => h b (List.mem_cons_of_mem _ hb)
    have := h a List.mem_cons_self
    omega
theorem wtM_nonneg (sc : Sc) (x y : List Nat) (P : List (List Int)) (z : List Int) (mvs : List (Int × List Int × List Int)) (k a : List Int) : 0 ≤ wtM (G1 sc x y) (C1 x y) P z mvs k a := by
  unfold wtM
  split
  · have h1 := C1_nonneg x y z a
    have h2 : 0 ≤ (mvs.map fun mv => G1 sc x y mv.2.1 (zw (· + ·) a mv.2.2)).sum := sum_nonneg fun b hb => by
      obtain ⟨mv, _, rfl⟩ := List.mem_map.mp hb
      have := G1_pos sc x y mv.2.1 (zw (· + ·) a mv.2.2)
      omega
    omega
  · unfold wtF
    split
    · exact C1_nonneg x y k a
    · have := G1_pos sc x y k a; omega
structure FI (sc : Sc) (x y : List Nat) (P : List (List Int)) (m : DM IE) : Prop where
  nd : (keysM m).Nodup
  na : (adrs m).Nodup
  ent : ∀ k ie, (k, ie) ∈ m → k ∈ nodesF x.length y.length ∧ (keysM ie.d).Nodup ∧ (∀ z ∈ ie.d, 0 < z.2 ∧ z.1.length = sc.size.toNat) ∧ ie.d.length ≤ 63 ∧ ∀ z ∈ ie.d, z.2 ≤ 63
  shd : ∀ k d, (k, IE.sh d) ∈ m → k ∈ P ∨ k = [0, 0, 0]
  own : ∀ k b d, (k, IE.own b d) ∈ m → k ∉ P
theorem mem_val {m : DM IE} {k : List Int} {ie : IE} (h : (keysM m).Nodup) (hm : (k, ie) ∈ m) : valM m k = some ie := mem_valM h hm
theorem nodes_len (n m : Nat) : (nodesF n m).length = (n + 1) * ((m + 1) * 3) := by
  unfold nodesF
  rw [flat_len _ ((m + 1) * 3) (fun a => by rw [flat_len _ 3 (fun _ => rfl), List.length_range]), List.length_range]
theorem FI.len {sc : Sc} {x y : List Nat} {P : List (List Int)} {m : DM IE} (h : FI sc x y P m) (hx : x.length ≤ 3) (hy : y.length ≤ 3) : m.length ≤ 48 := by
  have h1 : (keysM m).length ≤ (nodesF x.length y.length).length := nodup_sub h.nd fun k hk => by
    unfold keysM at hk
    obtain ⟨⟨k', ie⟩, hm, rfl⟩ := List.mem_map.mp hk
    exact (h.ent k' ie hm).1
  unfold keysM at h1
  rw [List.length_map, nodes_len] at h1
  have h3 : (x.length + 1) * ((y.length + 1) * 3) ≤ 4 * 12 := Nat.mul_le_mul (by omega) (by omega)
  omega
/-- what stood ahead in the row is not ahead of z -/
theorem seen_before {n m t : Nat} {z o : List Int} (h : (nodesF n m)[t]? = some z) (ho : o ∈ (nodesF n m).take t) : nB o z := by
  generalize hL : nodesF n m = L at h ho
  have ht : t < L.length := (List.getElem?_eq_some_iff.mp h).1
  have e2 : L = L.take t ++ z :: L.drop (t + 1) := by
    rw [← (List.getElem?_eq_some_iff.mp h).2, ← List.drop_eq_getElem_cons ht, List.take_append_drop]
  have ps := nodes_sorted n m
  rw [hL, e2, List.pairwise_append] at ps
  exact ps.2.2 o ho z List.mem_cons_self
theorem FI.share {sc : Sc} {x y : List Nat} {P : List (List Int)} {m : DM IE} {z : List Int} (h : FI sc x y P m) {b : Addr} {d : DM Int} (hz : valM m z = some (.own b d)) : FI sc x y (P ++ [z]) (shIn m b) ∧ valM (shIn m b) z = some (.sh d) := by
  have hm := valM_mm hz
  have only : ∀ {k e}, (k, IE.own b e) ∈ m → k = z ∧ e = d := fun {k e} hk => by
    have : ∀ {m : DM IE}, (adrs m).Nodup → (k, IE.own b e) ∈ m → (z, IE.own b d) ∈ m → k = z ∧ e = d := by
      intro m
      induction m with
      | nil => intro _ h; cases h
      | cons p m ih =>
        intro hn h1 h2
        have ha : adrs (p :: m) = p.2.adr ++ adrs m := by unfold adrs; rw [List.flatMap_cons]
        rw [ha, List.nodup_append] at hn
        rcases List.mem_cons.mp h1 with e1 | h1
        · rcases List.mem_cons.mp h2 with e2 | h2
          · rw [← e1] at e2; cases e2; exact ⟨rfl, rfl⟩
          · exact (hn.2.2 b (by rw [← e1]; exact List.mem_singleton.mpr rfl) b (mem_adrs.mpr ⟨_, _, h2⟩) rfl).elim
        · rcases List.mem_cons.mp h2 with e2 | h2
          · exact (hn.2.2 b (by rw [← e2]; exact List.mem_singleton.mpr rfl) b (mem_adrs.mpr ⟨_, _, h1⟩) rfl).elim
          · exact ih hn.2.1 h1 h2
    exact this h.na hk hm
  have nd : (keysM (shIn m b)).Nodup := by rw [keys_shIn]; exact h.nd
  refine ⟨⟨nd, nodup_shIn h.na, fun k ie hk => ?_, fun k e hk => ?_, fun k c e hk => ?_⟩, ?_⟩
  · rcases mem_shIn hk with ⟨e, rfl, hk2⟩ | ⟨hk2, _⟩
    · exact h.ent k (.own b e) hk2
    · exact h.ent k _ hk2
  · rcases mem_shIn hk with ⟨e', he, hk⟩ | ⟨hk, _⟩
    · obtain ⟨rfl, _⟩ := only hk
      exact .inl (List.mem_append_right _ (List.mem_singleton.mpr rfl))
    · rcases h.shd k e hk with q | q
      · exact .inl (List.mem_append_left _ q)
      · exact .inr q
  · rcases mem_shIn hk with ⟨e', he, _⟩ | ⟨hk, ne⟩
    · cases he
    · intro q
      rcases List.mem_append.mp q with q | q
      · exact h.own k c e hk q
      · have q := List.mem_singleton.mp q
        subst q
        have := mem_val h.nd hk
        rw [hz] at this
        cases this
        exact ne _ rfl
  · refine mem_valM (x := (z, IE.sh d)) nd ?_
    unfold shIn
    refine List.mem_map.mpr ⟨(z, .own b d), hm, ?_⟩
    show (if b = b then (z, IE.sh d) else _) = _
    rw [if_pos rfl]
theorem FI.stay {sc : Sc} {x y : List Nat} {P : List (List Int)} {m : DM IE} {z : List Int} (h : FI sc x y P m) (hz : ∀ b d, valM m z ≠ some (.own b d)) : FI sc x y (P ++ [z]) m :=
  ⟨h.nd, h.na, h.ent, fun k d hk => by
    rcases h.shd k d hk with q | q
    · exact .inl (List.mem_append_left _ q)
    · exact .inr q, fun k b d hk q => by
    rcases List.mem_append.mp q with q | q
    · exact h.own k b d hk q
    · have q := List.mem_singleton.mp q
      subst q
      exact hz b d (mem_val h.nd hk)⟩
theorem FI.newOwn {sc : Sc} {x y : List Nat} {P : List (List Int)} {m : DM IE} {o : List Int} {b : Addr} (h : FI sc x y P m) (ho : o ∈ nodesF x.length y.length) (hP : o ∉ P) (hn : valM m o = none) (hb : b ∉ adrs m) : FI sc x y P (m ++ [(o, .own b [])]) := by
  have ad : adrs (m ++ [(o, IE.own b [])]) = adrs m ++ [b] := by unfold adrs; rw [List.flatMap_append]; rfl
  have ke : keysM (m ++ [(o, IE.own b [])]) = keysM m ++ [o] := by unfold keysM; rw [List.map_append]; rfl
  refine ⟨?_, ?_, fun k ie hk => ?_, fun k d hk => ?_, fun k c d hk => ?_⟩
  · rw [ke, List.nodup_append]
    exact ⟨h.nd, by simp, fun a ha c hc e => valM_none.mp hn (by rw [← List.mem_singleton.mp hc, ← e]; exact ha)⟩
  · rw [ad, List.nodup_append]
    exact ⟨h.na, by simp, fun a ha c hc e => hb (by rw [← List.mem_singleton.mp hc, ← e]; exact ha)⟩
  · rcases List.mem_append.mp hk with hk | hk
    · exact h.ent k ie hk
    · cases List.mem_singleton.mp hk
      exact ⟨ho, by simp [keysM, IE.d], (fun _ z => by cases z), Nat.zero_le _, fun _ z => by cases z⟩
  · rcases List.mem_append.mp hk with hk | hk
    · exact h.shd k d hk
    · cases List.mem_singleton.mp hk
  · rcases List.mem_append.mp hk with hk | hk
    · exact h.own k c d hk
    · cases List.mem_singleton.mp hk
      exact hP
theorem setIn_val {m : DM IE} {b : Addr} {d d' : DM Int} {o : List Int} (hn : (keysM m).Nodup) (ho : valM m o = some (.own b d)) : valM (setIn m b d') o = some (.own b d') := by
  refine mem_valM (x := (o, IE.own b d')) (by rw [keys_setIn]; exact hn) ?_
  unfold setIn
  refine List.mem_map.mpr ⟨(o, .own b d), valM_mm ho, ?_⟩
  show (if b = b then (o, IE.own b d') else _) = _
  rw [if_pos rfl]
theorem setIn_sh {m : DM IE} {b : Addr} {d' : DM Int} {z : List Int} (hn : (keysM m).Nodup) : (∀ d, valM m z = some (.sh d) → valM (setIn m b d') z = some (.sh d)) ∧ (valM m z = none → valM (setIn m b d') z = none) := by
  refine ⟨fun d hz => mem_valM (x := (z, IE.sh d)) (by rw [keys_setIn]; exact hn) ?_, fun hz => valM_none.mpr (by rw [keys_setIn]; exact valM_none.mp hz)⟩
  unfold setIn
  exact List.mem_map.mpr ⟨(z, .sh d), valM_mm hz, rfl⟩
theorem FI.put {sc : Sc} {x y : List Nat} {P : List (List Int)} {m : DM IE} {o : List Int} {b : Addr} {d d' : DM Int} (h : FI sc x y P m) (ho : valM m o = some (.own b d)) (h1 : (keysM d').Nodup) (h2 : ∀ z ∈ d', 0 < z.2 ∧ z.1.length = sc.size.toNat) (h3 : d'.length ≤ 63) (h4 : ∀ z ∈ d', z.2 ≤ 63) :
    FI sc x y P (setIn m b d') :=
  ⟨by rw [keys_setIn]; exact h.nd, by rw [adrs_setIn]; exact h.na, fun k ie hk => by
    rcases mem_setIn hk with ⟨rfl, e, hk⟩ | ⟨hk, _⟩
    · exact ⟨(h.ent k _ hk).1, h1, h2, h3, h4⟩
    · exact h.ent k ie hk, fun k e hk => by
    rcases mem_setIn hk with ⟨he, _⟩ | ⟨hk, _⟩
    · cases he
    · exact h.shd k e hk, fun k c e hk => by
    rcases mem_setIn hk with ⟨he, e', hk2⟩ | ⟨hk2, _⟩
    · exact h.own k b e' hk2
    · exact h.own k c e hk2⟩
theorem add_ent {sc : Sc} {d : DM Int} {k : List Int} {w : Int} (hn : (keysM d).Nodup) (hd : ∀ z ∈ d, 0 < z.2 ∧ z.1.length = sc.size.toNat) (hw : 0 < w) (hk : k.length = sc.size.toNat) : (keysM (addM d k w)).Nodup ∧ ∀ z ∈ addM d k w, 0 < z.2 ∧ z.1.length = sc.size.toNat := by
  have nd : (keysM (addM d k w)).Nodup := nodup_put hn
  refine ⟨nd, fun z hz => ?_⟩
  have hv := mem_valM nd hz
  unfold addM at hv
  rw [valM_put] at hv
  by_cases q : z.1 = k
  · rw [if_pos q] at hv
    have hv := Option.some.inj hv
    refine ⟨?_, by rw [q]; exact hk⟩
    cases e : valM d k with
    | none => rw [e] at hv; have : (0 : Int) + w = z.2 := hv; omega
    | some v =>
      rw [e] at hv
      have : v + w = z.2 := hv
      have := (hd _ (valM_mem e)).1
      omega
  · rw [if_neg q] at hv
    exact hd _ (valM_mem hv)
theorem wtM_first {G C : List Int → List Int → Int} {P : List (List Int)} {sc : Sc} {x y : List Nat} (hr : Rec sc x y G C) {i j : Nat} {k : Int} (hi : i ≤ x.length) (hj : j ≤ y.length) (hk : k = 0 ∨ k = 1 ∨ k = 2) (hz : [(i : Int), (j : Int), k] ∉ P) {m : DM IE}
    (hm : ∀ key ie, (key, ie) ∈ m → ∀ z ∈ ie.d, z.1.length = sc.size.toNat) : totI (wtM G C P [(i : Int), (j : Int), k] (movesF sc x y i j k)) m = totI (wtF G C P) m := by
  refine totI_congr fun q hq => inn_congr fun z hzz => ?_
  unfold wtM
  by_cases e : q.1 = [(i : Int), (j : Int), k]
  · rw [if_pos e]
    unfold wtF
    rw [e, if_neg hz]
    exact (hr i j k hi hj hk z.1 (hm q.1 q.2 hq z hzz)).symm
  · rw [if_neg e]
theorem wtM_last {G C : List Int → List Int → Int} {P : List (List Int)} {z : List Int} {m : DM IE} : totI (wtM G C P z []) m = totI (wtF G C (P ++ [z])) m := by
  refine totI_congr fun q hq => inn_congr fun a _ => ?_
  unfold wtM wtF
  by_cases e : q.1 = z
  · rw [if_pos e, if_pos (by rw [e]; exact List.mem_append_right _ (List.mem_singleton.mpr rfl)), e]
    show C z a.1 + 0 = _
    omega
  · rw [if_neg e]
    by_cases h : q.1 ∈ P
    · rw [if_pos h, if_pos (List.mem_append_left _ h)]
    · rw [if_neg h, if_neg (fun w => by
        rcases List.mem_append.mp w with w | w
        · exact h w
        · exact e (List.mem_singleton.mp w))]
/-- one move of z is taken out of its weight -/
theorem wtM_step {G C : List Int → List Int → Int} {P : List (List Int)} {z : List Int} {mv : Int × List Int × List Int} {mvs : List (Int × List Int × List Int)} : ∀ {m : DM IE} {dz : DM Int}, (keysM m).Nodup → ((valM m z = none ∧ dz = []) ∨ ∃ ie, valM m z = some ie ∧ ie.d = dz) →
    totI (wtM G C P z (mv :: mvs)) m = totI (wtM G C P z mvs) m + inn (fun a => G mv.2.1 (zw (· + ·) a mv.2.2)) dz
  | [], dz, _, h => by
    rcases h with ⟨_, rfl⟩ | ⟨ie, h, _⟩
    · rfl
    · cases h
  | q :: m, dz, hn, h => by
    unfold keysM at hn
    rw [List.map_cons, List.nodup_cons] at hn
    rw [totI_cons, totI_cons]
    by_cases e : q.1 = z
    · have hq : valM (q :: m) z = some q.2 := by rw [valM_cons, if_pos e]
      have ed : q.2.d = dz := by
        rcases h with ⟨h, _⟩ | ⟨ie, h, hd⟩
        · rw [hq] at h; cases h
        · rw [hq] at h; cases h; exact hd
      have hno : valM m z = none := valM_none.mpr (by rw [← e]; exact hn.1)
      have ih := wtM_step (G := G) (C := C) (P := P) (z := z) (mv := mv) (mvs := mvs) (m := m) (dz := []) hn.2 (.inl ⟨hno, rfl⟩)
      rw [ih, inn_nil, ← ed]
      have e1 : inn (wtM G C P z (mv :: mvs) q.1) q.2.d = inn (wtM G C P z mvs q.1) q.2.d + inn (fun a => G mv.2.1 (zw (· + ·) a mv.2.2)) q.2.d := by
        rw [← inn_plus]
        refine inn_congr fun a _ => ?_
        unfold wtM
        rw [if_pos e, if_pos e, List.map_cons, List.sum_cons]
        omega
      rw [e1]; omega
    · have hq : valM (q :: m) z = valM m z := by rw [valM_cons, if_neg e]
      rw [hq] at h
      have ih := wtM_step (G := G) (C := C) (P := P) (z := z) (mv := mv) (mvs := mvs) hn.2 h
      have e1 : inn (wtM G C P z (mv :: mvs) q.1) q.2.d = inn (wtM G C P z mvs q.1) q.2.d := inn_congr fun a _ => by
        unfold wtM
        rw [if_neg e, if_neg e]
      rw [ih, e1]; omega
/-- what ways_from tells -/
structure WF (sc : Sc) (x y : List Nat) (m : DM (DM Int)) : Prop where
  nd : (keysM m).Nodup
  ent : ∀ k d, (k, d) ∈ m → k ∈ nodesF x.length y.length ∧ (∀ z ∈ d, 0 < z.2 ∧ z.1.length = sc.size.toNat ∧ z.2 ≤ 63) ∧ d.length ≤ 63
  tot : ∀ G C, Rec sc x y G C → tot C m = G [0, 0, 0] (zeroV sc)
end Rf
/-! WkF: ways_from. -/
namespace Rf
open PySem PySem.Spec PyProof.Rows L2
section
variable {T : Tx} {CS CR aS : Addr} {β : Option Addr} {Γ : EnvA} {te ta tb : TE} {K : PySem.W.Frag}
theorem ev_START (F : TF T CS CR aS) : Ev β (tC (.ref aS)) Γ (qTI T.K) (· = [0, 0, 0]) := ev_c fun A => ⟨aS, rfl, F.startT A⟩
abbrev s_ways_from : Stmt := topS 31
abbrev N_ways_from : List Str := ["scheme", "first", "second", "found", "place", "node", "kind", "other", "told", "there", "counts", "ways", "whole"]
theorem sc_ways_from : FnScope N_ways_from ["scheme", "first", "second"] (defScope s_ways_from) := ⟨rfl, rfl, rfl, by decide +kernel, rfl, by decide +kernel, by decide +kernel⟩
theorem nd_ways_from : N_ways_from.Nodup := by decide +kernel
theorem bd_ways_from (kV doc pm : Value) (an : Option Addr) (cdv ct : Value) (us : List Value) (hl : us.length = List.length (α := Str) ["scheme", "first", "second"]) : bindArgs (PySem.W.fnOf "ways_from" "ways_from" (defArgs s_ways_from) (defBody s_ways_from) (defScope s_ways_from) .none kV doc pm an cdv ct) ⟨us, []⟩ = pure (List.zip (α := Str) ["scheme", "first", "second"] us) := match us, hl with | [_, _, _], _ => rfl

abbrev spWF (CS : Addr) (T : Tx) : Sp := spOf (ι := Sc × List Nat × List Nat) (fun _ => none) (fun g => [sh (qSc CS) g.1, sh qW g.2.1, sh qW g.2.2]) okXY (qD T.P T.w T.K (qD T.P T.w T.K qI)) (fun g z => WF g.1 g.2.1 g.2.2 z)
theorem ok_ways_from (F : TF T CS CR aS) (csize : Cl T 1 "size" (spSize CS)) (cnodes : Cl T 1 "nodes" (spNodes T.K)) (cmoves : Cl T 3 "moves" (spMoves CS T.K)) (c_with : Cl T 1 "_with" (spWith T.K)) (D : Dn T "ways_from" s_ways_from) :
    Cl T 4 "ways_from" (spWF CS T) := by
  refine cl_def D sc_ways_from bd_ways_from (fun _ => rfl) fun f cdv A outer s H E hr => ⟨_, (pss_cons (ps_set (i := 3) nd_ways_from rfl (Or.inl rfl) (xd_disp1 (w := T.w) (K := T.K) (P := T.P) rfl rfl rfl (huA hr) (pgl (⟨rfl, rfl, rfl, rfl, rfl⟩ : At _ T) rfl F.gSTART) (xd_disp1 (w := T.w) (K := T.K) (P := T.P) rfl rfl rfl (huA hr) (pbT (⟨rfl, rfl, rfl, rfl, rfl⟩ : At _ T) (cTuple (⟨rfl, rfl, rfl, rfl, rfl⟩ : At _ T)) rfl F.tuple boot_tuple (pa_cons (pe_lc (own := [("place", 4)]) rfl nd_ways_from (piR (⟨rfl, rfl, rfl, rfl, rfl⟩ : At _ T) rfl F.range (pa_cons (pc csize (⟨rfl, rfl, rfl, rfl, rfl⟩ : At _ T) hr (by decide) rfl (pa_cons (pv 0) pa_nil)) pa_nil)) (blkOk_by (own := [("place", 4)]) (N := N_ways_from) (sc := defScope s_ways_from) (by decide +kernel)) (fun _ _ _ _ _ => (pg_name (i := 4) nd_ways_from rfl (.inl rfl) (.inr rfl))) (fun _ _ _ _ _ => pts_nil) (fun _ _ _ _ _ => pe_int)) pa_nil)) pe_int)))
      (pss_cons (ps_for PassesOwn.never rfl (piL (⟨rfl, rfl, rfl, rfl, rfl⟩ : At _ T) (pc cnodes (⟨rfl, rfl, rfl, rfl, rfl⟩ : At _ T) hr (by decide) rfl (pa_cons (pv 1) (pa_cons (pv 2) pa_nil)))) (pg_name (i := 5) nd_ways_from rfl (.inl rfl) (.inl rfl)) (pss_one (ps_for PassesOwn.never rfl (piL (⟨rfl, rfl, rfl, rfl, rfl⟩ : At _ T) (pc cmoves (⟨rfl, rfl, rfl, rfl, rfl⟩ : At _ T) hr (by decide) rfl (pa_cons (pv 0) (pa_cons (pv 1) (pa_cons (pv 2) (pa_cons (pv 5) pa_nil)))))) (pgT 3 (⟨rfl, rfl, rfl, rfl, rfl⟩ : At _ T) rfl (pgs_cons (pg_name (i := 6) nd_ways_from rfl (.inl rfl) (.inl rfl)) (pgs_cons (pg_name (i := 7) nd_ways_from rfl (.inl rfl) (.inl rfl)) (pgs_cons (pg_name (i := 8) nd_ways_from rfl (.inl rfl) (.inl rfl)) pgs_nil)))) (pss_cons (ps_set (i := 9) nd_ways_from rfl (Or.inl rfl) (xd_setd (P := T.P) (w := T.w) (K := T.K) rfl rfl rfl (hu_of hr) (pv 3) (pv 7) (xd_new (P := T.P) (w := T.w) rfl rfl) ⟨rfl, rfl, rfl, rfl⟩))
      (pss_one (ps_for PassesOwn.never rfl (xi_items (P := T.P) (w := T.w) rfl rfl (xd_get2 (P := T.P) (w := T.w) (K := T.K) rfl rfl rfl (hu_of hr) (pv 3) (pv 5) (xd_new (P := T.P) (w := T.w) rfl rfl) ⟨rfl, rfl, rfl, rfl⟩)) (pgT 2 (⟨rfl, rfl, rfl, rfl, rfl⟩ : At _ T) rfl (pgs_cons (pg_name (i := 10) nd_ways_from rfl (.inl rfl) (.inl rfl)) (pgs_cons (pg_name (i := 11) nd_ways_from rfl (.inl rfl) (.inl rfl)) pgs_nil))) (pss_cons (ps_set (i := 12) nd_ways_from rfl (Or.inl rfl) (pc c_with (⟨rfl, rfl, rfl, rfl, rfl⟩ : At _ T) hr (by decide) rfl (pa_cons (pv 10) (pa_cons (pv 8) pa_nil))))
      (pss_one (xs_put (P := T.P) (w := T.w) (K := T.K) rfl rfl rfl (hu_of hr) (pv 9) (pv 12) (pe_op op_add (xd_get2 (P := T.P) (w := T.w) (K := T.K) rfl rfl rfl (hu_of hr) (pv 9) (pv 12) pe_int ⟨rfl, rfl, rfl, rfl⟩) (pv 11)) rfl)))))))))
      (pss_one (ps_ret (pv 3))))), ?_⟩
  rintro ⟨sc, x, y⟩ Fm D eb ⟨hg, hx, hy, ox, oy⟩ hR -
  have hg : sc.groups.length ≤ 4 := hg
  have hx : x.length ≤ 3 := hx
  have hy : y.length ≤ 3 := hy
  have hsz := size_range sc
  have hz : (zeroV sc).length = sc.size.toNat := by simp [zeroV]
  let QD := qD T.P T.w T.K qI
  let EN : Addr → DM IE → Option Ent → Option Ent → Option Ent → Option Ent → Option Ent → EnvA := fun a m node other told there whole => [some (sh (qSc CS) sc), some (sh qW x), some (sh qW y), some (ownDD T.P T.w T.K a m), none, node, none, other, told, there, none, none, whole]
  show Tr Fm [some (sh (qSc CS) sc), some (sh qW x), some (sh qW y), none, none, none, none, none, none, none, none, none, none] _ _
  refine tr_asgNDE (K := T.K) (r := QD) (d := [([0, 0, 0], [(zeroV sc, 1)])]) ((end_one (r := QD) (pk := (· = [0, 0, 0])) (pv := (· = [(zeroV sc, (1 : Int))])) (ev_START F) ((end_one (r := qI) (pk := (· = zeroV sc)) (pv := (· = (1 : Int))) (ev_tupleL (en_zeros (n := sc.size) (ev_sizeD (ev_var rfl)) (by omega)).ev) ev_int).imp ?_).ev).imp ?_) ?_
  · rintro _ ⟨k, v, e1, e2, e3⟩; rw [e3, e1, e2]
  · rintro _ ⟨k, v, e1, e2, e3⟩; rw [e3, e1, e2]
  refine tr_toDD (i := 3) rfl fun a => ?_
  show Tr Fm (EN a [([0, 0, 0], .sh [(zeroV sc, 1)])] none none none none none) _ _
  have start : FI sc x y [] [([0, 0, 0], .sh [(zeroV sc, 1)])] := ⟨by simp [keysM], by simp [adrs, IE.adr], fun k ie hk => by
    cases List.mem_singleton.mp hk
    refine ⟨mem_nodes.mpr ⟨0, 0, 0, by omega, by omega, .inl rfl, rfl⟩, by simp [keysM, IE.d], fun z hzz => ?_, by simp [IE.d], fun z hzz => ?_⟩
    · cases List.mem_singleton.mp hzz; exact ⟨by show (0 : Int) < 1; decide, hz⟩
    · cases List.mem_singleton.mp hzz; show (1 : Int) ≤ 63; decide, fun k d hk => by
    cases List.mem_singleton.mp hk
    exact .inr rfl, fun k b d hk => by cases List.mem_singleton.mp hk⟩
  refine tr_forS (S := DM IE) (ei_list (p := (· = nodesF x.length y.length)) (ev_call2D (ev_var rfl) (ev_var rfl) (x, y) rfl ⟨Nat.le_trans hx (by decide), Nat.le_trans hy (by decide)⟩ fun _ h => h) tg_name)
    (fun xs t m => FI sc x y (xs.take t) m ∧ ∀ G C, Rec sc x y G C → totI (wtF G C (xs.take t)) m = G [0, 0, 0] (zeroV sc)) (fun m => EN a m none none none none none) ?_ ?_ ?_
  · rintro xs rfl
    refine ⟨_, ⟨by rw [List.take_zero]; exact start, fun G C _ => ?_⟩, (by repeat (first | exact lss_nil | apply lss_some | apply lss_none))⟩
    show inn _ [(zeroV sc, (1 : Int))] + 0 = _
    rw [inn_cons, inn_nil, List.take_zero]
    show 1 * wtF G C [] [0, 0, 0] (zeroV sc) + 0 + 0 = _
    unfold wtF
    rw [if_neg (by simp)]; omega
  · rintro xs rfl B t z hzt m0 ⟨hF0, hT0⟩
    have hzm : z ∈ nodesF x.length y.length := List.mem_of_getElem? hzt
    have hP : (nodesF x.length y.length).take (t + 1) = (nodesF x.length y.length).take t ++ [z] := take_succ' hzt
    generalize hPP : (nodesF x.length y.length).take t = P at hF0 hT0 hP
    have hzP : z ∉ P := fun h => by
      rw [← hPP] at h
      have nd : (nodesF x.length y.length).Nodup := by
        have : ∀ {l : List (List Int)}, l.Pairwise (· ≠ ·) → l.Nodup := fun h => h
        have h1 := (nodes_sorted x.length y.length)
        unfold nodesF
        rw [List.nodup_iff_pairwise_ne, List.pairwise_flatMap]
        refine ⟨fun i _ => ?_, ?_⟩
        · rw [List.pairwise_flatMap]
          refine ⟨fun j _ => by simp, ?_⟩
          refine List.Pairwise.imp ?_ List.pairwise_lt_range
          intro a b hab p hp q hq e
          simp only [List.mem_cons, List.not_mem_nil, or_false] at hp hq
          have e2 : p.getD 1 0 = q.getD 1 0 := by rw [e]
          rcases hp with rfl | rfl | rfl <;> rcases hq with rfl | rfl | rfl <;> (have e2 : (a : Int) = b := e2; omega)
        · refine List.Pairwise.imp ?_ List.pairwise_lt_range
          intro a b hab p hp q hq e
          simp only [List.mem_flatMap, List.mem_range, List.mem_cons, List.not_mem_nil, or_false] at hp hq
          obtain ⟨_, _, hp⟩ := hp
          obtain ⟨_, _, hq⟩ := hq
          have e2 : p.getD 0 0 = q.getD 0 0 := by rw [e]
          rcases hp with rfl | rfl | rfl <;> rcases hq with rfl | rfl | rfl <;> (have e2 : (a : Int) = b := e2; omega)
      obtain ⟨s, hs, e⟩ := List.mem_take_iff_getElem.mp h
      have h2 := (List.getElem?_eq_some_iff.mp hzt)
      obtain ⟨ht, et⟩ := h2
      exact List.pairwise_iff_getElem.mp nd s t (by omega) ht (by omega) (e.trans et.symm)
    obtain ⟨i, j, k, hi, hj, hk, rfl⟩ := mem_nodes.mp hzm
    have len : ∀ {P m}, FI sc x y P m → ∀ key ie, (key, ie) ∈ m → ∀ q ∈ ie.d, q.1.length = sc.size.toNat := fun {P m} h key ie hm q hq => ((h.ent key ie hm).2.2.1 q hq).2
    -- the node's own dict is in the base from here on
    have main : ∀ m dz, FI sc x y (P ++ [[(i : Int), (j : Int), k]]) m → (valM m [(i : Int), (j : Int), k] = some (.sh dz) ∨ (valM m [(i : Int), (j : Int), k] = none ∧ dz = [])) → (∀ G C, Rec sc x y G C → totI (wtF G C P) m = G [0, 0, 0] (zeroV sc)) →
        (∀ q ∈ dz, 0 < q.2 ∧ q.1.length = sc.size.toNat) →
        Tr (Fm.at B) (EN a m (some (sh (qTI T.K) [(i : Int), (j : Int), k])) none none none none) (tFor (iList T.K (tCall (spMoves CS T.K) [] E0 (tCons (tVar 0) (tCons (tVar 1) (tCons (tVar 2) (tCons (tVar 5) tNil)))))) (gTup T.K 3 (gCons (gName 6) (gCons (gName 7) (gCons (gName 8) gNil))))
          (tSeq (tAsg (tXSetd T.P T.w T.K (tVar 3) (tVar 7) (tXNew T.P T.w)) (gName 9))
            (tFor (iItX T.P T.w (tXGet2 T.P T.w T.K (tVar 3) (tVar 5) (tXNew T.P T.w))) (gTup T.K 2 (gCons (gName 10) (gCons (gName 11) gNil)))
              (tSeq (tAsg (tCall (spWith T.K) [] E0 (tCons (tVar 10) (tCons (tVar 8) tNil))) (gName 12))
                (sXPut T.P T.w T.K (tVar 9) (tVar 12) (tOp (rI0 fun i j => .int (i + j)) (tXGet2 T.P T.w T.K (tVar 9) (tVar 12) (tC (.int 0))) (tVar 11)))))))
          ⟨SS (Fm.at B) (Nx (fun m => FI sc x y ((nodesF x.length y.length).take (t + 1)) m ∧ ∀ G C, Rec sc x y G C → totI (wtF G C ((nodesF x.length y.length).take (t + 1))) m = G [0, 0, 0] (zeroV sc)) fun m => EN a m none none none none none), D.rt, D.bk, SS (Fm.at B) (Nx (fun m => FI sc x y ((nodesF x.length y.length).take (t + 1)) m ∧ ∀ G C, Rec sc x y G C → totI (wtF G C ((nodesF x.length y.length).take (t + 1))) m = G [0, 0, 0] (zeroV sc)) fun m => EN a m none none none none none)⟩ := by
      intro m dz hF hz0 hT hdz
      have zin : ∀ {m'}, (valM m' [(i : Int), (j : Int), k] = some (IE.sh dz) ∨ (valM m' [(i : Int), (j : Int), k] = none ∧ dz = [])) → (valM m' [(i : Int), (j : Int), k] = none ∧ dz = []) ∨ ∃ ie, valM m' [(i : Int), (j : Int), k] = some ie ∧ ie.d = dz := fun {m'} h => by
        rcases h with h | h
        · exact .inr ⟨_, h, rfl⟩
        · exact .inl h
      refine tr_last (tr_forS (S := DM IE) (ei_list (p := (· = movesF sc x y i j k)) (ev_call4D (ev_var rfl) (ev_var rfl) (ev_var rfl) (ev_var rfl) (sc, x, y, i, j, k) rfl ⟨hg, Nat.le_trans hx (by decide), Nat.le_trans hy (by decide)⟩ fun _ h => h) tg_trip)
        (fun xs s m' => FI sc x y (P ++ [[(i : Int), (j : Int), k]]) m' ∧ (valM m' [(i : Int), (j : Int), k] = some (IE.sh dz) ∨ (valM m' [(i : Int), (j : Int), k] = none ∧ dz = [])) ∧ ∀ G C, Rec sc x y G C → totI (wtM G C P [(i : Int), (j : Int), k] (xs.drop s)) m' = G [0, 0, 0] (zeroV sc))
        (fun m' => EN a m' (some (sh (qTI T.K) [(i : Int), (j : Int), k])) none none none none) ?_ ?_ ?_)
      · rintro xs rfl
        exact ⟨m, ⟨hF, hz0, fun G C hr => by rw [List.drop_zero, wtM_first hr hi hj hk hzP (len hF)]; exact hT G C hr⟩, (by repeat (first | exact lss_nil | apply lss_some | apply lss_none))⟩
      · rintro xs rfl B2 s mv hmv m1 ⟨hF1, hz1, hT1⟩
        obtain ⟨i', j', e1, e2, hi', hj', hk', hlt, hl3⟩ := move_shape (List.mem_of_getElem? hmv) hi hj
        have on : mv.2.1 ∈ nodesF x.length y.length := by rw [e1]; exact mem_nodes.mpr ⟨i', j', mv.1, hi', hj', hk', rfl⟩
        have nb : ¬ nB mv.2.1 [(i : Int), (j : Int), k] := by
          rw [e1]
          rintro (h | ⟨h1, h2⟩)
          · have h : (i' : Int) < i := h
            omega
          · have h1 : (i' : Int) = i := h1
            have h2 : (j' : Int) ≤ j := h2
            omega
        have oz : mv.2.1 ≠ [(i : Int), (j : Int), k] := fun h => nb (by rw [h]; exact .inr ⟨rfl, Int.le_refl _⟩)
        have oP : mv.2.1 ∉ P := fun h => nb (by rw [← hPP] at h; exact seen_before hzt h)
        have oP' : mv.2.1 ∉ P ++ [[(i : Int), (j : Int), k]] := fun h => by
          rcases List.mem_append.mp h with h | h
          · exact oP h
          · exact oz (List.mem_singleton.mp h)
        have o0 : mv.2.1 ≠ [0, 0, 0] := fun h => by
          rw [e1] at h
          simp only [List.cons.injEq, and_true] at h
          omega
        have hdrop : (movesF sc x y i j k).drop s = mv :: (movesF sc x y i j k).drop (s + 1) := by
          rw [List.drop_eq_getElem_cons (List.getElem?_eq_some_iff.mp hmv).1, (List.getElem?_eq_some_iff.mp hmv).2]
        show Tr ((Fm.at B).at B2) [some (sh (qSc CS) sc), some (sh qW x), some (sh qW y), some (ownDD T.P T.w T.K a m1), none, some (sh (qTI T.K) [(i : Int), (j : Int), k]), some (sh qI mv.1), some (sh (qTI T.K) mv.2.1), some (sh (rL qI) mv.2.2), none, none, none, none] _ _
        refine tr_setdX (i := 3) (j := 9) (by decide) rfl (ev_var rfl) (Nat.lt_of_le_of_lt (hF1.len hx hy) (by decide)) (fun d hd => ?_) ?_
        · rcases hF1.shd _ _ (valM_mm hd) with h | h
          · exact oP' h
          · exact o0 h
        rintro b d2 m2 hm2
        have f2 : FI sc x y (P ++ [[(i : Int), (j : Int), k]]) m2 ∧ valM m2 mv.2.1 = some (.own b d2) ∧ (valM m2 [(i : Int), (j : Int), k] = some (IE.sh dz) ∨ (valM m2 [(i : Int), (j : Int), k] = none ∧ dz = [])) ∧ ∀ wt, totI wt m2 = totI wt m1 := by
          rcases hm2 with ⟨h1, rfl⟩ | ⟨h1, rfl, h3, rfl⟩
          · exact ⟨hF1, h1, hz1, fun _ => rfl⟩
          · have fn := hF1.newOwn on oP' h1 h3
            refine ⟨fn, by rw [valM_append, h1]; simp, ?_, fun wt => ?_⟩
            · rw [valM_append]
              rcases hz1 with h | ⟨h, h'⟩
              · rw [h]; exact .inl rfl
              · rw [h]
                refine .inr ⟨?_, h'⟩
                show (if mv.2.1 = [(i : Int), (j : Int), k] then _ else none) = none
                rw [if_neg oz]
            · rw [totI_append]
              show _ + inn _ [] = _
              rw [inn_nil]; omega
        obtain ⟨hF2, hv2, hz2, ht2⟩ := f2
        have wo : ∀ (G C : List Int → List Int → Int) (rest : List (Int × List Int × List Int)) (d : DM Int), inn (wtM G C P [(i : Int), (j : Int), k] rest mv.2.1) d = inn (G mv.2.1) d := fun G C rest d => inn_congr fun q _ => by
          unfold wtM wtF
          rw [if_neg oz, if_neg oP]
        refine tr_last (tr_forS (S := DM IE) (ei_items (p := (· = dz)) (ev_ddget2 (i := 3) rfl (ev_var rfl) hz2) tg_pair)
          (fun its s' m' => FI sc x y (P ++ [[(i : Int), (j : Int), k]]) m' ∧ (valM m' [(i : Int), (j : Int), k] = some (IE.sh dz) ∨ (valM m' [(i : Int), (j : Int), k] = none ∧ dz = [])) ∧ (∃ d, valM m' mv.2.1 = some (.own b d)) ∧
            ∀ G C, Rec sc x y G C → totI (wtM G C P [(i : Int), (j : Int), k] ((movesF sc x y i j k).drop (s + 1))) m' + inn (fun a => G mv.2.1 (zw (· + ·) a mv.2.2)) (its.drop s') = G [0, 0, 0] (zeroV sc))
          (fun m' => [some (sh (qSc CS) sc), some (sh qW x), some (sh qW y), some (ownDD T.P T.w T.K a m'), none, some (sh (qTI T.K) [(i : Int), (j : Int), k]), none, some (sh (qTI T.K) mv.2.1), some (sh (rL qI) mv.2.2), some (boxE b), none, none, none]) ?_ ?_ ?_)
        · rintro its rfl
          refine ⟨m2, ⟨hF2, hz2, ⟨d2, hv2⟩, fun G C hr => ?_⟩, (by repeat (first | exact lss_nil | apply lss_some | apply lss_none))⟩
          rw [List.drop_zero, ← wtM_step hF2.nd (zin hz2), ← hdrop, ht2]
          exact hT1 G C hr
        · rintro its rfl B3 s' it hit m3 ⟨hF3, hz3, ⟨d3, hv3⟩, hT3⟩
          have hitm := List.mem_of_getElem? hit
          obtain ⟨hw, hl1⟩ := hdz it hitm
          have hdropi : its.drop s' = it :: its.drop (s' + 1) := by
            rw [List.drop_eq_getElem_cons (List.getElem?_eq_some_iff.mp hit).1, (List.getElem?_eq_some_iff.mp hit).2]
          obtain ⟨_, nd3, en3, ln3, wn3⟩ := hF3.ent _ _ (valM_mm hv3)
          show Tr _ [some (sh (qSc CS) sc), some (sh qW x), some (sh qW y), some (ownDD T.P T.w T.K a m3), none, some (sh (qTI T.K) [(i : Int), (j : Int), k]), none, some (sh (qTI T.K) mv.2.1), some (sh (rL qI) mv.2.2), some (boxE b), some (sh (qTI T.K) it.1), some (sh qI it.2), none] _ _
          refine tr_asgD (x := zw (· + ·) it.1 mv.2.2) (ev_call2D (ev_var rfl) (ev_var rfl) (it.1, mv.2.2) rfl (by show List.length it.1 ≤ 1000; omega) fun _ h => h) ?_
          have ln3' : d3.length ≤ 63 := ln3
          have nd3 : (keysM d3).Nodup := nd3
          have en3 : ∀ z ∈ d3, 0 < z.2 ∧ z.1.length = sc.size.toNat := en3
          refine tr_last (tr_putIn (i := 3) (j := 9) (x := (valM d3 (zw (· + ·) it.1 mv.2.2)).getD 0 + it.2) (kk := zw (· + ·) it.1 mv.2.2) rfl rfl hv3 (ev_i0 (pi := (· = (valM d3 (zw (· + ·) it.1 mv.2.2)).getD 0)) (pj := (· = it.2)) (ev_dget2 (px := (· = 0)) (ed_alias (i := 3) rfl rfl hv3) (ev_var rfl) ev_int ?_) (ev_var rfl) ?_) (ev_var rfl) (by omega) ?_)
          · rintro _ _ _ rfl rfl rfl; rfl
          · rintro _ _ rfl rfl; rfl
          have wl : (zw (· + ·) it.1 mv.2.2).length = sc.size.toNat := by rw [zw_len, hl1, hl3, Nat.min_self]
          obtain ⟨nd4, en4⟩ := add_ent (sc := sc) (k := zw (· + ·) it.1 mv.2.2) (w := it.2) nd3 en3 hw wl
          have nd4 : (keysM (addM d3 (zw (· + ·) it.1 mv.2.2) it.2)).Nodup := nd4
          have tnew : ∀ G C, Rec sc x y G C → totI (wtM G C P [(i : Int), (j : Int), k] ((movesF sc x y i j k).drop (s + 1))) (setIn m3 b (addM d3 (zw (· + ·) it.1 mv.2.2) it.2)) + inn (fun a => G mv.2.1 (zw (· + ·) a mv.2.2)) (its.drop (s' + 1)) = G [0, 0, 0] (zeroV sc) := fun G C hr => by
            rw [totI_set hF3.na (valM_mm hv3), wo, wo, inn_add nd3, ← hT3 G C hr, hdropi, inn_cons]
            omega
          have bnd := by
            have h1 := tnew _ _ (rec1 sc ox oy)
            have h2 : G1 sc x y [0, 0, 0] (zeroV sc) ≤ 63 := by
              have := suf_len sc 0 0 0 hx hy
              have e : G1 sc x y [0, 0, 0] (zeroV sc) = ((Suf sc x y 0 0 0).length : Int) := rfl
              omega
            have h3 : 0 ≤ inn (fun a => G1 sc x y mv.2.1 (zw (· + ·) a mv.2.2)) (its.drop (s' + 1)) := inn_nonneg fun q hq => by
              have := (hdz q (List.mem_of_mem_drop hq)).1
              have := G1_pos sc x y mv.2.1 (zw (· + ·) q.1 mv.2.2)
              omega
            have hset : (mv.2.1, IE.own b (addM d3 (zw (· + ·) it.1 mv.2.2) it.2)) ∈ setIn m3 b (addM d3 (zw (· + ·) it.1 mv.2.2) it.2) := valM_mm (setIn_val hF3.nd hv3)
            have h4 := totI_ge (wt := wtM (G1 sc x y) (C1 x y) P [(i : Int), (j : Int), k] ((movesF sc x y i j k).drop (s + 1))) (fun p hp => inn_nonneg fun q hq => ⟨by
              obtain ⟨kp, iep⟩ := p
              rcases mem_setIn hp with ⟨rfl, _⟩ | ⟨hp, _⟩
              · have := (en4 q hq).1; omega
              · have := ((hF3.ent _ _ hp).2.2.1 q hq).1; omega, wtM_nonneg sc x y _ _ _ _ _⟩) hset
            rw [wo] at h4
            exact inn_size (f := G1 sc x y mv.2.1) (B := 63) (d := addM d3 (zw (· + ·) it.1 mv.2.2) it.2) (fun q hq => ⟨(en4 q hq).1, G1_pos _ _ _ _ _⟩) (by
              have h4 : inn (G1 sc x y mv.2.1) (addM d3 (zw (· + ·) it.1 mv.2.2) it.2) ≤ _ := h4
              omega)
          refine tr_nx rfl (setIn m3 b (addM d3 (zw (· + ·) it.1 mv.2.2) it.2)) ⟨hF3.put hv3 nd4 en4 (by have := bnd.1; omega) bnd.2, ?_, ⟨_, setIn_val hF3.nd hv3⟩, tnew⟩ (by repeat (first | exact lss_nil | apply lss_some | apply lss_none))
          rcases hz3 with h | ⟨h, h'⟩
          · exact .inl ((setIn_sh hF3.nd).1 _ h)
          · exact .inr ⟨(setIn_sh hF3.nd).2 h, h'⟩
        · rintro its rfl m3 ⟨hF3, hz3, _, hT3⟩
          refine tr_nx rfl m3 ⟨hF3, hz3, fun G C hr => ?_⟩ (by repeat (first | exact lss_nil | apply lss_some | apply lss_none))
          have := hT3 G C hr
          rw [List.drop_length, inn_nil] at this
          omega
      · rintro xs rfl m1 ⟨hF1, _, hT1⟩
        refine tr_nx rfl m1 ⟨by rw [hP]; exact hF1, fun G C hr => ?_⟩ (by repeat (first | exact lss_nil | apply lss_some | apply lss_none))
        have := hT1 G C hr
        rw [List.drop_length, wtM_last] at this
        rw [hP]; exact this
    by_cases hown : ∃ b d, valM m0 [(i : Int), (j : Int), k] = some (.own b d)
    · obtain ⟨b, d, hv⟩ := hown
      obtain ⟨f1, f2⟩ := hF0.share hv
      refine tr_shareIn (i := 3) rfl hv ?_
      refine main (shIn m0 b) d f1 (.inl f2) (fun G C hr => by rw [totI_sh]; exact hT0 G C hr) ?_
      exact (hF0.ent _ _ (valM_mm hv)).2.2.1
    · have f1 := hF0.stay (z := [(i : Int), (j : Int), k]) fun b d hv => hown ⟨b, d, hv⟩
      cases hv : valM m0 [(i : Int), (j : Int), k] with
      | none => exact main m0 [] f1 (.inr ⟨hv, rfl⟩) hT0 fun _ h => by cases h
      | some ie =>
        cases ie with
        | own b d => exact (hown ⟨b, d, hv⟩).elim
        | sh d => exact main m0 d f1 (.inl hv) hT0 (hF0.ent _ _ (valM_mm hv)).2.2.1
  · rintro xs rfl m ⟨hF, hT⟩
    rw [List.take_length] at hF hT
    have noown : adrs m = [] := by
      apply List.eq_nil_iff_forall_not_mem.mpr
      intro b hb
      obtain ⟨k, d, hm⟩ := mem_adrs.mp hb
      exact hF.own k b d hm (hF.ent k _ hm).1
    refine tr_allSh (i := 3) rfl noown (tr_shareD (i := 3) (r := QD) rfl (tr_retD (ev_var rfl) hR ⟨?_, fun k d hk => ?_, fun G C hr => ?_⟩))
    · have : keysM (m.map fun x => (x.1, x.2.d)) = keysM m := by unfold keysM; rw [List.map_map]; rfl
      rw [this]; exact hF.nd
    · obtain ⟨⟨k', ie⟩, hm, e⟩ := List.mem_map.mp hk
      cases e
      obtain ⟨h1, _, h3, h4, h5⟩ := hF.ent _ _ hm
      exact ⟨h1, fun z hz => ⟨(h3 z hz).1, (h3 z hz).2, h5 z hz⟩, h4⟩
    · rw [← hT G C hr]
      unfold tot totI
      rw [List.map_map]
      congr 1
      apply List.map_congr_left
      intro p hp
      refine inn_congr fun q _ => ?_
      unfold wtF
      rw [if_pos (hF.ent p.1 p.2 hp).1]
end
end Rf
/-! Mm: the alignments with given counts that have a given column. -/
namespace Rf
open PySem

def colsR : Nat → Nat → List (Nat × Nat) → List (Nat × Nat)
  | _, _, [] => []
  | i, j, c :: l => (if c.1 ≠ 45 ∧ c.2 ≠ 45 then [(i, j)] else []) ++ colsR (i + if c.1 ≠ 45 then 1 else 0) (j + if c.2 ≠ 45 then 1 else 0) l
def colsA (i j : Nat) (al : List Nat × List Nat) : List (Nat × Nat) := colsR i j (al.1.zip al.2)
theorem cols_ge {p : Nat × Nat} : ∀ {l : List (Nat × Nat)} {i j : Nat}, p ∈ colsR i j l → i ≤ p.1 ∧ j ≤ p.2
  | [], _, _, h => by cases h
  | c :: l, i, j, h => by
    unfold colsR at h
    rcases List.mem_append.mp h with h | h
    · split at h
      · cases List.mem_singleton.mp h; exact ⟨Nat.le_refl _, Nat.le_refl _⟩
      · cases h
    · have := cols_ge h
      omega
theorem colsA_cons {i j a b : Nat} {r : List Nat × List Nat} : colsA i j (a :: r.1, b :: r.2) = (if a ≠ 45 ∧ b ≠ 45 then [(i, j)] else []) ++ colsA (i + if a ≠ 45 then 1 else 0) (j + if b ≠ 45 then 1 else 0) r := by
  unfold colsA
  show colsR i j (List.zip (a :: r.1) (b :: r.2)) = _
  rw [List.zip_cons_cons]
  conv => lhs; unfold colsR
/-- how many ways on from (i, j, k), the counts a behind, end in c and have the column p -/
def Gm (sc : Sc) (x y : List Nat) (c : List Int) (p : Nat × Nat) (i j : Nat) (k : Int) (a : List Int) : Nat :=
  ((Al (x.drop i) (y.drop j)).filter fun al => decide (zw (· + ·) (cntA sc k al) a = c) && decide (p ∈ colsA i j al)).length
def GmK (sc : Sc) (x y : List Nat) (c : List Int) (p : Nat × Nat) (key a : List Int) : Int := (Gm sc x y c p (key.getD 0 0).toNat (key.getD 1 0).toNat (key.getD 2 0) a : Int)
def restF (c a step : List Int) : List Int := zw (· - ·) (zw (· - ·) c a) step
def CmK (sc : Sc) (x y : List Nat) (c : List Int) (p : Nat × Nat) (key a : List Int) : Int :=
  if (key.getD 0 0).toNat = p.1 ∧ (key.getD 1 0).toNat = p.2 ∧ p.1 < x.length ∧ p.2 < y.length then
    ((Suf sc x y (p.1 + 1) (p.2 + 1) 0).count (restF c a (addedF sc 0 (key.getD 2 0) (x.getD p.1 0) (y.getD p.2 0))) : Int) else 0
theorem zw_sub_add : ∀ {q s a c : List Int} {n : Nat}, q.length = n → s.length = n → a.length = n → c.length = n → (zw (· + ·) (zw (· + ·) q s) a = c ↔ q = restF c a s)
  | [], [], [], [], _, _, _, _, _ => by simp [restF, zw]
  | q :: qs, s :: ss, a :: as, c :: cs, 0, h, _, _, _ => by simp at h
  | q :: qs, s :: ss, a :: as, c :: cs, n + 1, h1, h2, h3, h4 => by
    have ih := zw_sub_add (q := qs) (s := ss) (a := as) (c := cs) (n := n) (by simpa using h1) (by simpa using h2) (by simpa using h3) (by simpa using h4)
    unfold restF zw at ih ⊢
    simp only [List.zipWith_cons_cons, List.cons.injEq]
    rw [ih]
    constructor
    · rintro ⟨h, h'⟩; exact ⟨by omega, h'⟩
    · rintro ⟨h, h'⟩; exact ⟨by omega, h'⟩
  | [], _ :: _, _, _, _, h1, h2, _, _ => by simp at h1; rw [← h1] at h2; simp at h2
  | [], [], _ :: _, _, _, h1, _, h3, _ => by simp at h1; rw [← h1] at h3; simp at h3
  | [], [], [], _ :: _, _, h1, _, _, h4 => by simp at h1; rw [← h1] at h4; simp at h4
  | _ :: _, [], _, _, _, h1, h2, _, _ => by simp at h2; rw [← h2] at h1; simp at h1
  | _ :: _, _ :: _, [], _, _, h1, _, h3, _ => by simp at h3; rw [← h3] at h1; simp at h1
  | _ :: _, _ :: _, _ :: _, [], _, h1, _, _, h4 => by simp at h4; rw [← h4] at h1; simp at h1
theorem cntA_len (sc : Sc) (k : Int) (al : List Nat × List Nat) : (cntA sc k al).length = sc.size.toNat := cntR_len _ _ _
theorem filter_map_len {α γ : Type} (f : α → γ) (p : γ → Bool) (l : List α) : ((l.map f).filter p).length = (l.filter fun a => p (f a)).length := by
  rw [List.filter_map, List.length_map]; rfl
theorem filter_congr_len {α : Type} {p q : α → Bool} {l : List α} (h : ∀ a ∈ l, p a = q a) : (l.filter p).length = (l.filter q).length := by rw [List.filter_congr h]
theorem zw_swap (q s a : List Int) : zw (· + ·) (zw (· + ·) q s) a = zw (· + ·) q (zw (· + ·) a s) := by rw [zw_assoc, zw_comm s a]
theorem al_sum (sc : Sc) (x y : List Nat) (i j : Nat) (k : Int) (P : List Nat × List Nat → Bool) (h : ¬ (x.length ≤ i ∧ y.length ≤ j)) : ((Al (x.drop i) (y.drop j)).filter P).length =
    (if i < x.length ∧ j < y.length then ((Al (x.drop (i + 1)) (y.drop (j + 1))).filter fun r => P (x.getD i 0 :: r.1, y.getD j 0 :: r.2)).length else 0) +
    ((if i < x.length then ((Al (x.drop (i + 1)) (y.drop j)).filter fun r => P (x.getD i 0 :: r.1, 45 :: r.2)).length else 0) + (if j < y.length then ((Al (x.drop i) (y.drop (j + 1))).filter fun r => P (45 :: r.1, y.getD j 0 :: r.2)).length else 0)) := by
  by_cases hi : i < x.length
  · by_cases hj : j < y.length
    · rw [if_pos ⟨hi, hj⟩, if_pos hi, if_pos hj]
      rw [drop_cons hi, drop_cons hj]
      conv => lhs; unfold Al
      rw [List.filter_append, List.filter_append, List.length_append, List.length_append, filter_map_len, filter_map_len, filter_map_len]
    · rw [if_neg (fun z => hj z.2), if_pos hi, if_neg hj, drop_cons hi, List.drop_eq_nil_of_le (by omega : y.length ≤ j)]
      conv => lhs; unfold Al
      rw [filter_map_len]; omega
  · have hj : j < y.length := by omega
    rw [if_neg (fun z => hi z.1), if_neg hi, if_pos hj, drop_cons hj, List.drop_eq_nil_of_le (by omega : x.length ≤ i)]
    conv => lhs; unfold Al
    rw [filter_map_len]; omega
theorem recM (sc : Sc) {x y : List Nat} (ox : okW x) (oy : okW y) {c : List Int} (hc : c.length = sc.size.toNat) (p : Nat × Nat) : Rec sc x y (GmK sc x y c p) (CmK sc x y c p) := by
  intro i j k hi hj hk a ha
  have mem : ∀ {z : List Nat} {n : Nat}, okW z → n < z.length → z.getD n 0 ≠ 45 := fun {z n} hz hn e => by
    rw [List.getD_eq_getElem?_getD, List.getElem?_eq_getElem hn] at e
    exact hz (by rw [← show z[n] = 45 from e]; exact List.getElem_mem hn)
  have eG : ∀ (i j : Nat) (k : Int) (a : List Int), GmK sc x y c p [(i : Int), (j : Int), k] a = (Gm sc x y c p i j k a : Int) := fun _ _ _ _ => rfl
  have eC : CmK sc x y c p [(i : Int), (j : Int), k] a = if i = p.1 ∧ j = p.2 ∧ p.1 < x.length ∧ p.2 < y.length then ((Suf sc x y (p.1 + 1) (p.2 + 1) 0).count (restF c a (addedF sc 0 k (x.getD p.1 0) (y.getD p.2 0))) : Int) else 0 := rfl
  rw [eG, eC]
  by_cases h : x.length ≤ i ∧ y.length ≤ j
  · rw [moves_end h.1 h.2, if_neg (by omega)]
    unfold Gm
    rw [List.drop_eq_nil_of_le h.1, List.drop_eq_nil_of_le h.2]
    have : Al [] [] = [([], [])] := by unfold Al; rfl
    rw [this]
    have : colsA i j ([], []) = [] := rfl
    simp [this]
  · have key := al_sum sc x y i j k (fun al => decide (zw (· + ·) (cntA sc k al) a = c) && decide (p ∈ colsA i j al)) h
    unfold Gm
    rw [key]
    -- the three parts
    have pd : i < x.length → ((Al (x.drop (i + 1)) (y.drop j)).filter fun r => decide (zw (· + ·) (cntA sc k (x.getD i 0 :: r.1, 45 :: r.2)) a = c) && decide (p ∈ colsA i j (x.getD i 0 :: r.1, 45 :: r.2))).length = Gm sc x y c p (i + 1) j 1 (zw (· + ·) a (addedF sc 1 k (x.getD i 0) 45)) := fun hi => by
      unfold Gm
      refine filter_congr_len fun r _ => ?_
      rw [cntA_cons, kind_del (mem ox hi), zw_swap, colsA_cons, if_neg (fun z => z.2 rfl), if_pos (mem ox hi), if_neg (fun z => z rfl)]; rfl
    have pi : j < y.length → ((Al (x.drop i) (y.drop (j + 1))).filter fun r => decide (zw (· + ·) (cntA sc k (45 :: r.1, y.getD j 0 :: r.2)) a = c) && decide (p ∈ colsA i j (45 :: r.1, y.getD j 0 :: r.2))).length = Gm sc x y c p i (j + 1) 2 (zw (· + ·) a (addedF sc 2 k 45 (y.getD j 0))) := fun hj => by
      unfold Gm
      refine filter_congr_len fun r _ => ?_
      rw [cntA_cons, kind_ins, zw_swap, colsA_cons, if_neg (fun z => z.1 rfl), if_neg (fun z => z rfl), if_pos (mem oy hj)]; rfl
    have pm : i < x.length ∧ j < y.length → (((Al (x.drop (i + 1)) (y.drop (j + 1))).filter fun r => decide (zw (· + ·) (cntA sc k (x.getD i 0 :: r.1, y.getD j 0 :: r.2)) a = c) && decide (p ∈ colsA i j (x.getD i 0 :: r.1, y.getD j 0 :: r.2))).length : Int) =
        (if i = p.1 ∧ j = p.2 ∧ p.1 < x.length ∧ p.2 < y.length then ((Suf sc x y (p.1 + 1) (p.2 + 1) 0).count (restF c a (addedF sc 0 k (x.getD p.1 0) (y.getD p.2 0))) : Int) else 0) + (Gm sc x y c p (i + 1) (j + 1) 0 (zw (· + ·) a (addedF sc 0 k (x.getD i 0) (y.getD j 0))) : Int) := fun hij => by
      have e1 : ∀ r : List Nat × List Nat, cntA sc k (x.getD i 0 :: r.1, y.getD j 0 :: r.2) = zw (· + ·) (cntA sc 0 r) (addedF sc 0 k (x.getD i 0) (y.getD j 0)) := fun r => by rw [cntA_cons, kind_mat (mem ox hij.1) (mem oy hij.2)]
      have e2 : ∀ r : List Nat × List Nat, colsA i j (x.getD i 0 :: r.1, y.getD j 0 :: r.2) = (i, j) :: colsA (i + 1) (j + 1) r := fun r => by
        rw [colsA_cons, if_pos ⟨mem ox hij.1, mem oy hij.2⟩, if_pos (mem ox hij.1), if_pos (mem oy hij.2)]; rfl
      by_cases hp : p = (i, j)
      · subst hp
        rw [if_pos ⟨rfl, rfl, hij.1, hij.2⟩]
        have z : Gm sc x y c (i, j) (i + 1) (j + 1) 0 (zw (· + ·) a (addedF sc 0 k (x.getD i 0) (y.getD j 0))) = 0 := by
          unfold Gm
          rw [List.length_eq_zero_iff, List.filter_eq_nil_iff]
          intro r _ hr
          simp only [Bool.and_eq_true, decide_eq_true_eq] at hr
          have := cols_ge hr.2
          have : i + 1 ≤ i := this.1
          omega
        rw [z]
        show ((_ : Nat) : Int) = ((_ : Nat) : Int) + 0
        rw [Int.add_zero]
        congr 1
        unfold Suf
        rw [List.count_eq_length_filter, filter_map_len]
        refine filter_congr_len fun r _ => ?_
        rw [e1, e2]
        have q := zw_sub_add (q := cntA sc 0 r) (s := addedF sc 0 k (x.getD i 0) (y.getD j 0)) (a := a) (c := c) (cntA_len sc 0 r) (added_len sc 0 k (x.getD i 0) (y.getD j 0)) ha hc
        simp only [List.mem_cons, true_or, decide_true, Bool.and_true]
        rw [Bool.eq_iff_iff, decide_eq_true_eq, beq_iff_eq, q]
      · rw [if_neg (fun z => hp (by rw [z.1, z.2.1])), Int.zero_add]
        congr 1
        unfold Gm
        refine filter_congr_len fun r _ => ?_
        rw [e1, e2, zw_swap]
        simp [hp]
    unfold movesF
    by_cases hi' : i < x.length
    · by_cases hj' : j < y.length
      · have pm' := pm ⟨hi', hj'⟩
        have c1 : i < x.length ∧ j < y.length := ⟨hi', hj'⟩
        simp only [if_pos c1, if_pos hi', if_pos hj']
        simp only [List.map_append, List.map_cons, List.map_nil, List.sum_append, List.sum_cons, List.sum_nil]
        rw [pd hi', pi hj']
        have a1 := eG (i + 1) (j + 1) 0 (zw (· + ·) a (addedF sc 0 k (x.getD i 0) (y.getD j 0)))
        have a2 := eG (i + 1) j 1 (zw (· + ·) a (addedF sc 1 k (x.getD i 0) 45))
        have a3 := eG i (j + 1) 2 (zw (· + ·) a (addedF sc 2 k 45 (y.getD j 0)))
        rw [Int.natCast_add, Int.natCast_one] at a1 a2 a3
        rw [Int.natCast_add j 1, Int.natCast_one] at a1
        rw [a1, a2, a3]
        omega
      · have hp : ¬ (i = p.1 ∧ j = p.2 ∧ p.1 < x.length ∧ p.2 < y.length) := by omega
        have c1 : ¬ (i < x.length ∧ j < y.length) := fun z => hj' z.2
        simp only [if_neg c1, if_pos hi', if_neg hj', if_neg hp]
        simp only [List.map_append, List.map_cons, List.map_nil, List.sum_append, List.sum_cons, List.sum_nil]
        rw [pd hi']
        have a2 := eG (i + 1) j 1 (zw (· + ·) a (addedF sc 1 k (x.getD i 0) 45))
        rw [Int.natCast_add, Int.natCast_one] at a2
        rw [a2]
        omega
    · have hj' : j < y.length := by omega
      have hp : ¬ (i = p.1 ∧ j = p.2 ∧ p.1 < x.length ∧ p.2 < y.length) := by omega
      have c1 : ¬ (i < x.length ∧ j < y.length) := fun z => hi' z.1
      simp only [if_neg c1, if_neg hi', if_pos hj', if_neg hp]
      simp only [List.map_append, List.map_cons, List.map_nil, List.sum_append, List.sum_cons, List.sum_nil]
      rw [pi hj']
      have a3 := eG i (j + 1) 2 (zw (· + ·) a (addedF sc 2 k 45 (y.getD j 0)))
      rw [Int.natCast_add, Int.natCast_one] at a3
      rw [a3]
      omega
/-- the alignments with the counts c that have the column p -/
def Mcol (sc : Sc) (x y : List Nat) (c : List Int) (p : Nat × Nat) : Nat := ((Al x y).filter fun al => decide (cntA sc 0 al = c) && decide (p ∈ colsA 0 0 al)).length
theorem gm_start (sc : Sc) (x y : List Nat) (c : List Int) (p : Nat × Nat) : GmK sc x y c p [0, 0, 0] (zeroV sc) = (Mcol sc x y c p : Int) := by
  show (Gm sc x y c p 0 0 0 (zeroV sc) : Int) = _
  unfold Gm Mcol
  congr 1
  refine filter_congr_len fun al _ => ?_
  rw [show zw (· + ·) (cntA sc 0 al) (zeroV sc) = cntA sc 0 al from zw_zero _ _ (cntA_len _ _ _)]
end Rf
/-! Cal10: dict comprehensions; == of data. -/
namespace Rf
open PySem PySem.Spec L2
section
variable {K : PySem.W.Frag} {P : Program} {w : World} {β : Option Addr} {Γ : EnvA} {α γ δ : Type} {r : RP α}
theorem end_comp [m : Mono r] {wi : TI} {g : TG} {tt : TT} {tk tv : TE} {vs js : List Nat} {e : γ → List Ent} {p : List γ → Prop} {b : γ → Bool} {kf : γ → List Int} {vf : γ → α} (hi : EvI β wi g Γ js e p) (hj : ∀ j ∈ js, j ∈ vs) (hz : ∀ xs, p xs → xs.length < 16777216)
    (ht : ∀ xs, p xs → ∀ x ∈ xs, EvT β tt (setsE (wipeE Γ vs) js (e x)) (· = b x)) (hk : ∀ xs, p xs → ∀ x ∈ xs, b x = true → Ev β tk (setsE (wipeE Γ vs) js (e x)) (qTI K) (· = kf x)) (he : ∀ xs, p xs → ∀ x ∈ xs, b x = true → Ev β tv (setsE (wipeE Γ vs) js (e x)) r (· = vf x)) :
    EnD P w K β (tXDc P w K wi g tt tk tv vs) Γ r fun d => ∃ xs, p xs ∧ d = (xs.filter b).foldl (fun m x => putM m (kf x) (vf x)) [] := fun H0 σ A H R Q k => by
  refine hi H0 σ A H R _ fun J xs B H1 g1 px wk => ?_
  intro D hD
  have hBD : B D = none := g1.sub.no hD
  have hHD : H D = none := R.back g1 hD
  have nb : β ≠ some D := fun z => by
    obtain ⟨_, _, _, _, e1, _⟩ := R.boxOk z
    rw [hHD] at e1; cases e1
  have hsz := hz xs px
  let dd : Nat → DM α := fun i => ((xs.take i).filter b).foldl (fun m x => putM m (kf x) (vf x)) []
  have dlen : ∀ i, (dd i).length ≤ xs.length := fun i => by
    have gen : ∀ (l : List γ) (d : DM α), (l.foldl (fun m x => putM m (kf x) (vf x)) d).length ≤ d.length + l.length := by
      intro l
      induction l with
      | nil => intro d; exact Nat.le_refl _
      | cons x l ih =>
        intro d
        rw [List.foldl_cons, List.length_cons]
        have h1 := ih (putM d (kf x) (vf x))
        have h2 : (putM d (kf x) (vf x)).length ≤ d.length + 1 := by unfold putM; split <;> simp
        omega
    have h1 := gen ((xs.take i).filter b) []
    have h2 := List.length_filter_le b (xs.take i)
    have h3 : (xs.take i).length ≤ xs.length := by rw [List.length_take]; omega
    have h4 : ([] : DM α).length = 0 := rfl
    show (List.foldl _ [] _).length ≤ _
    omega
  let Pv : Nat → Hp → Prop := fun i H' => ∃ (C : Hp) (ws : DV), Grow β A H C H' ∧ Le B C ∧ C D = none ∧ H' D = some (DO P w D ws) ∧ KeysOk K C ws ∧ Paired (DPr r C) ws (dd i)
  have len : (xs.map e).length = xs.length := List.length_map _
  refine ⟨fun i n H' => n = xs.length - i ∧ i ≤ xs.length ∧ Pv i H', ⟨xs.length, by simp, Nat.zero_le _, B, [], g1.trans (Grow.newOwn g1.sub hD), Le.refl, hBD, upd_same, (fun _ h => nomatch h), by show Paired _ [] (dd 0); exact .nil⟩, ?_⟩
  rintro i n H' ⟨rfl, hin, C, ws, h1, h2, h3, h4, h5, h6⟩
  by_cases hlt : i < xs.length
  · refine .inr ⟨wk.go i C H' (by rw [len]; exact hlt) h2 h1.sub, Pv (i + 1), fun H'' pv => ⟨xs.length - (i + 1), by omega, rfl, hlt, pv⟩, fun x H'' yd => ?_⟩
    obtain ⟨y, hxy⟩ : ∃ y, xs[i]? = some y := ⟨xs[i], List.getElem?_eq_getElem hlt⟩
    have hm : y ∈ xs := List.mem_of_getElem? hxy
    obtain ⟨C1, k1, k2⟩ := wk.yld i (e y) C H' x H'' (by rw [List.getElem?_map, hxy]; rfl) h2 h1.sub yd
    refine k2 (L2.wipe σ vs) _ fun l C2 H2 k3 k4 => ⟨wipe_sets hj, ?_⟩
    have G2 : Grow β A H C2 H2 := h1.trans (k1.trans k3).free
    have R2 : Rel β H0 (setsE (wipeE Γ vs) js (e y)) (setsV (L2.wipe σ vs) js l) C2 H2 := ((R.grow G2).wipe vs).sets k4
    have D2 := (k1.trans k3).own D _ (fun z => nomatch z) h3 h4
    have L2' := (k1.trans k3).le
    refine ht xs px y hm H0 _ C2 H2 R2 _ fun c C3 H3 k5 ec => ?_
    have D3 := k5.own D _ nb D2.1 D2.2
    have L3 : Le C C3 := L2'.trans k5.le
    cases c with
    | false =>
      rw [if_neg Bool.false_ne_true]
      refine ⟨C3, ws, G2.trans k5, h2.trans L3, D3.1, D3.2, keys_le L3 h5, ?_⟩
      have e1 : dd (i + 1) = dd i := by
        show List.foldl _ [] _ = List.foldl _ [] _
        rw [take_succ' hxy, List.filter_append, List.filter_cons, if_neg (by rw [← ec]; decide)]
        simp
      rw [e1]
      exact dpr_le L3 h6
    | true =>
      rw [if_pos rfl]
      refine hk xs px y hm ec.symm H0 _ C3 H3 (R2.grow k5) _ fun u kk C4 H4 k6 ek ⟨bb, eb, hb⟩ => ?_
      subst ek
      refine he xs px y hm ec.symm H0 _ C4 H4 ((R2.grow k5).grow k6) _ fun v z C5 H5 k7 ez rz => ?_
      subst ez
      have k67 := k6.trans k7
      have D5 := k67.own D _ nb D3.1 D3.2
      have L5 : Le C C5 := L3.trans k67.le
      have lw : ws.length ≤ xs.length := by
        have e1 : ws.length = (dd i).length := Paired.length h6
        have := dlen i
        omega
      have hb5 : SqT K C5 bb ((kf y).map V.int) := k7.le.sqt hb
      refine ⟨ws, kf y, bb, eb, sqt_up k7.sub hb5, D5.2, keys_le k7.sub.le (keys_le L5 h5), by rw [PySem.sizeLine_eq]; omega, C5, putD ws (kf y) bb v, ?_, (h2.trans L5), D5.1, upd_same, (keys_le L5 h5).put v hb5, ?_⟩
      · have G5 : Grow β A H C5 H5 := (G2.trans k5).trans k67
        refine ⟨G5.le, fun a u' ea => ?_, fun a u' n q1 q2 => ?_, fun b' n q1 q2 => ?_⟩
        · rw [upd_ne (fun z => by rw [z, D5.1] at ea; cases ea)]; exact G5.sub a u' ea
        · have := G5.own a u' n q1 q2
          rw [upd_ne (fun z => by rw [z, hHD] at q2; cases q2)]; exact this
        · obtain ⟨z1, r1, xs1, n1, z2, z3⟩ := G5.box b' n q1 q2
          exact ⟨z1, r1, xs1, n1, by rw [upd_ne (fun z => nb (by rw [n, z]))]; exact z2, z3⟩
      · have e1 : dd (i + 1) = putM (dd i) (kf y) (vf y) := by
          show List.foldl _ [] _ = putM (List.foldl _ [] _) _ _
          rw [take_succ' hxy, List.filter_append, List.filter_cons, if_pos ec.symm, List.foldl_append]
          rfl
        rw [e1]
        exact dpr_put (dpr_le L5 h6) (kf y) bb rz
  · have ei : i = xs.length := by omega
    subst ei
    have st := wk.stop C H' h2 h1.sub
    rw [len] at st
    refine .inl ⟨st, k D ws (dd xs.length) C H' h1 hHD h3 h4 h5 ⟨xs, px, ?_⟩ h6⟩
    show List.foldl _ [] _ = _
    rw [List.take_length]

/-! ### data -/
structure IsDat (K : PySem.W.Frag) (r : RP α) (enc : α → PyData) (ok : α → Prop) : Prop where
  dp : ∀ A H v x, Sub A H → r A v x → Dp K H v (enc x)
  lay : ∀ x, ok x → (enc x).canLay0 = true ∧ (enc x).depth ≤ 10
  eqv : ∀ x y, PyData.eqv (enc x) (enc y) = true ↔ x = y
theorem dat_int : IsDat K qI PyData.int (fun _ => True) := ⟨fun A H v x s e => by cases (show v = _ from e); exact .int _, fun x _ => ⟨by simp [PyData.canLay0], by simp [PyData.depth]⟩, fun x y => by simp [PyData.eqv]⟩
theorem eqv_all {enc : α → PyData} (h : ∀ x y, PyData.eqv (enc x) (enc y) = true ↔ x = y) : ∀ xs ys : List α, PyData.eqvAll (xs.map enc) (ys.map enc) = true ↔ xs = ys
  | [], [] => by simp [PyData.eqvAll]
  | [], _ :: _ => by simp [PyData.eqvAll]
  | _ :: _, [] => by simp [PyData.eqvAll]
  | x :: xs, y :: ys => by
    rw [List.map_cons, List.map_cons, PyData.eqvAll, Bool.and_eq_true, h, eqv_all h xs ys]; simp
theorem lay_all {enc : α → PyData} {n : Nat} : ∀ {xs : List α}, (∀ x ∈ xs, (enc x).canLay0 = true ∧ (enc x).depth ≤ n) → PyData.canLayAll0 (xs.map enc) = true ∧ PyData.depthAll (xs.map enc) ≤ n
  | [], _ => by simp [PyData.canLayAll0, PyData.depthAll]
  | x :: xs, h => by
    obtain ⟨q1, q2⟩ := lay_all fun y hy => h y (List.mem_cons_of_mem _ hy)
    obtain ⟨q3, q4⟩ := h x List.mem_cons_self
    rw [List.map_cons, PyData.canLayAll0, PyData.depthAll]
    exact ⟨by rw [q3, q1]; rfl, Nat.max_le.mpr ⟨q4, q2⟩⟩
theorem dpall_lst {enc : α → PyData} (he : ∀ A H v x, Sub A H → r A v x → Dp K H v (enc x)) {B H1 : Hp} (s : Sub B H1) {vs : List V} {xs : List α} (h : Paired (r B) vs xs) : DpAll K H1 vs (xs.map enc) := by
  induction h with
  | nil => exact .nil
  | cons h1 _ ih => exact .cons (he _ _ _ _ s h1) ih
def sh64 {d : PyData} (h : d.canLay0 = true) (h2 : d.depth ≤ 64) : SeqAt.shaped d = true := by unfold SeqAt.shaped; rw [h, decide_eq_true h2]; rfl
theorem ints_lay (xs : List Int) : PyData.canLayAll0 (xs.map PyData.int) = true ∧ PyData.depthAll (xs.map PyData.int) ≤ 0 := lay_all fun x _ => ⟨by simp [PyData.canLay0], by simp [PyData.depth]⟩
/-- lists of whole numbers -/
theorem dat_ints : IsDat K (rL qI) (fun xs => .list (xs.map PyData.int)) (fun _ => True) := ⟨fun A H v x s ⟨l, vs, e, h1, h2⟩ => by
    subst e
    exact .lst (SqL.of (s _ _ h1)) (dpall_lst (r := qI) dat_int.dp s h2), fun x _ => ⟨by rw [PyData.canLay0]; exact (ints_lay x).1, by rw [PyData.depth]; have := (ints_lay x).2; omega⟩, fun x y => by
    rw [PyData.eqv]; exact eqv_all (fun a b => dat_int.eqv (K := K) a b) x y⟩
/-- tuples of whole numbers -/
theorem dat_tup : IsDat K (qTI K) (fun xs => .tuple (xs.map PyData.int)) (fun _ => True) := ⟨fun A H v x s ⟨l, e, h1⟩ => by
    subst e
    refine .tup (sqt_up s h1) ?_
    have : ∀ l : List Int, DpAll K H (l.map V.int) (l.map PyData.int) := by
      intro l
      induction l with
      | nil => exact .nil
      | cons a l ih => exact .cons (.int a) ih
    exact this x, fun x _ => ⟨by rw [PyData.canLay0]; exact (ints_lay x).1, by rw [PyData.depth]; have := (ints_lay x).2; omega⟩, fun x y => by
    rw [PyData.eqv]; exact eqv_all (fun a b => dat_int.eqv (K := K) a b) x y⟩
/-- pairs of words -/
def okWd (l : List Nat) : Prop := ∀ c ∈ l, c < 0x110000
theorem dat_word : IsDat K qW (fun l => .str ⟨l.toArray⟩) okWd := ⟨fun A H v x s e => by cases (show v = _ from e); exact .str _, fun x hx => ⟨by
    rw [PyData.canLay0]
    show (Array.all x.toArray _) = true
    rw [List.all_toArray, List.all_eq_true]
    intro c hc
    exact decide_eq_true (hx c hc), by simp [PyData.depth]⟩, fun x y => by
    rw [PyData.eqv, beq_iff_eq]; exact word_eq⟩
theorem dat_pair {r1 : RP γ} {r2 : RP δ} {e1 : γ → PyData} {e2 : δ → PyData} {o1 : γ → Prop} {o2 : δ → Prop} (h1 : IsDat K r1 e1 o1) (h2 : IsDat K r2 e2 o2) (n : ∀ x : γ × δ, o1 x.1 ∧ o2 x.2 → (e1 x.1).depth ≤ 5 ∧ (e2 x.2).depth ≤ 5) : IsDat K (qP r1 r2) (fun x : γ × δ => .tuple [e1 x.1, e2 x.2]) (fun x : γ × δ => o1 x.1 ∧ o2 x.2) :=
  ⟨fun A H v x s ⟨a, v1, v2, e, g1, g2, g3⟩ => by
    subst e
    exact .tup (SqT.of (s _ _ g1)) (.cons (h1.dp _ _ _ _ s g2) (.cons (h2.dp _ _ _ _ s g3) .nil)), fun x hx => by
    obtain ⟨q1, _⟩ := h1.lay x.1 hx.1
    obtain ⟨q3, _⟩ := h2.lay x.2 hx.2
    obtain ⟨n1, n2⟩ := n x hx
    refine ⟨by rw [PyData.canLay0, PyData.canLayAll0, PyData.canLayAll0, PyData.canLayAll0, q1, q3]; rfl, ?_⟩
    rw [PyData.depth, PyData.depthAll, PyData.depthAll, PyData.depthAll]
    omega, fun x y => by
    rw [PyData.eqv, PyData.eqvAll, PyData.eqvAll, PyData.eqvAll, Bool.and_eq_true, Bool.and_eq_true, h1.eqv, h2.eqv]
    exact ⟨fun h => Prod.ext h.1 h.2.1, fun h => by rw [h]; exact ⟨rfl, rfl, rfl⟩⟩⟩
variable {ta tb : TE} {pb : Bool → Prop} [DecidableEq α] {enc : α → PyData} {ok : α → Prop}
theorem ev_neData [m : Mono r] {p1 p2 : α → Prop} (D : IsDat K r enc ok) (h1 : Ev β ta Γ r p1) (h2 : Ev β tb Γ r p2) (o1 : ∀ x, p1 x → ok x) (o2 : ∀ x, p2 x → ok x) (k : ∀ x y, p1 x → p2 y → pb (!decide (x = y))) : Ev β (tOp (rNeD K) ta tb) Γ qB pb :=
  ev_op h1 (fun _ _ => h2) fun x y px py A H s v w hv hw Q q => by
    obtain ⟨a1, a2⟩ := D.lay x (o1 x px)
    obtain ⟨b1, b2⟩ := D.lay y (o2 y py)
    refine ⟨enc x, enc y, D.dp _ _ _ _ s hv, D.dp _ _ _ _ s hw, sh64 a1 (by omega), sh64 b1 (by omega), q _ (!decide (x = y)) A H (Grow.refl s) (k x y px py) ?_⟩
    show V.bl _ = V.bl _
    congr 2
    rw [Bool.eq_iff_iff, D.eqv, decide_eq_true_eq]
theorem ev_niData [m : Mono r] {p1 : α → Prop} {p2 : List α → Prop} (D : IsDat K r enc ok) (h1 : Ev β ta Γ r p1) (h2 : Ev β tb Γ (rL r) p2) (o1 : ∀ x, p1 x → ok x) (o2 : ∀ xs, p2 xs → ∀ x ∈ xs, ok x) (k : ∀ x ys, p1 x → p2 ys → pb (!decide (x ∈ ys))) : Ev β (tOp (rNotInD K) ta tb) Γ qB pb :=
  ev_op h1 (fun _ _ => h2) fun x ys px py A H s v w hv ⟨l, vs, e, e1, e2⟩ Q q => by
    subst e
    obtain ⟨a1, a2⟩ := D.lay x (o1 x px)
    obtain ⟨b1, b2⟩ := lay_all (enc := enc) (n := 10) fun y hy => D.lay y (o2 ys py y hy)
    refine ⟨enc x, ys.map enc, D.dp _ _ _ _ s hv, .lst (SqL.of (s _ _ e1)) (dpall_lst D.dp s e2), sh64 a1 (by omega), sh64 (by rw [PyData.canLay0]; exact b1) (by rw [PyData.depth]; omega), q _ (!decide (x ∈ ys)) A H (Grow.refl s) (k x ys px py) ?_⟩
    show V.bl _ = V.bl _
    congr 2
    rw [Bool.eq_iff_iff, List.any_map, List.any_eq_true, decide_eq_true_eq]
    constructor
    · rintro ⟨y, hy, e⟩
      have := (D.eqv y x).mp e
      rw [← this]; exact hy
    · intro hx
      exact ⟨x, hx, (D.eqv x x).mpr rfl⟩
end
end Rf
/-! WkG: possible, minimal counts; the matches with given counts. -/
namespace Rf
open PySem PySem.Spec PyProof.Rows L2
theorem suf_mem_len {sc : Sc} {x y : List Nat} {i j : Nat} {k : Int} {c : List Int} (h : c ∈ Suf sc x y i j k) : c.length = sc.size.toNat := by
  unfold Suf at h
  obtain ⟨al, _, e⟩ := List.mem_map.mp h
  rw [← e]; exact cntR_len _ _ _
theorem rep_keys {m : DM Int} {L : List (List Int)} (h : Rep m L) (c : List Int) : c ∈ keysM m ↔ c ∈ L := by
  constructor
  · intro hc
    unfold keysM at hc
    obtain ⟨x, hx, rfl⟩ := List.mem_map.mp hc
    exact (h.mem hx).2.2
  · intro hc
    apply Decidable.byContradiction
    intro z
    have := valM_none.mpr z
    rw [h.val, if_neg (by have := List.count_pos_iff.mpr hc; omega)] at this
    cases this
def belowF (a b : List Int) : Bool := !decide (a = b) && (a.zip b).all fun p => decide (p.1 ≤ p.2)
structure PossF (sc : Sc) (x y : List Nat) (z : List (List Int)) : Prop where
  mem : ∀ c, c ∈ z ↔ c ∈ Suf sc x y 0 0 0
  len : z.length ≤ 63
structure MinF (sc : Sc) (x y : List Nat) (z : List (List Int)) : Prop where
  mem : ∀ c, c ∈ z ↔ c ∈ Suf sc x y 0 0 0 ∧ ∀ o ∈ Suf sc x y 0 0 0, belowF o c = false
  len : z.length ≤ 63
/-- what matches_with tells -/
structure MatF (sc : Sc) (x y : List Nat) (c : List Int) (z : DM Int) : Prop where
  val : ∀ p : Nat × Nat, valM z [(p.1 : Int), (p.2 : Int)] = if Mcol sc x y c p = 0 then none else some (Mcol sc x y c p : Int)
  key : ∀ k ∈ keysM z, ∃ i j : Nat, k = [(i : Int), (j : Int)] ∧ i < x.length ∧ j < y.length
  len : z.length ≤ 9
section
variable {T : Tx} {CS CR aS : Addr} {β : Option Addr} {Γ : EnvA} {te ta tb : TE} {K : PySem.W.Frag}
theorem ev_seqT {p : List Int → Prop} (h : Ev β te Γ (qTI K) p) : Ev β te Γ (qSeq K) p := h.as fun x px => ⟨x, px, fun _ _ z => .inr z⟩
theorem ev_seqL {p : List Int → Prop} (h : Ev β te Γ (rL qI) p) : Ev β te Γ (qSeq K) p := h.as fun x px => ⟨x, px, fun _ _ z => .inl z⟩
abbrev s_possible_counts : Stmt := topS 32
abbrev N_possible_counts : List Str := ["scheme", "first", "second", "counts"]
theorem sc_possible_counts : FnScope N_possible_counts ["scheme", "first", "second"] (defScope s_possible_counts) := ⟨rfl, rfl, rfl, by decide +kernel, rfl, by decide +kernel, by decide +kernel⟩
theorem nd_possible_counts : N_possible_counts.Nodup := by decide +kernel
theorem bd_possible_counts (kV doc pm : Value) (an : Option Addr) (cdv ct : Value) (us : List Value) (hl : us.length = List.length (α := Str) ["scheme", "first", "second"]) : bindArgs (PySem.W.fnOf "possible_counts" "possible_counts" (defArgs s_possible_counts) (defBody s_possible_counts) (defScope s_possible_counts) .none kV doc pm an cdv ct) ⟨us, []⟩ = pure (List.zip (α := Str) ["scheme", "first", "second"] us) := match us, hl with | [_, _, _], _ => rfl

abbrev spPossible (CS : Addr) : Sp := spOf (ι := Sc × List Nat × List Nat) (fun _ => none) (fun g => [sh (qSc CS) g.1, sh qW g.2.1, sh qW g.2.2]) okXY (rL (rL qI)) (fun g z => PossF g.1 g.2.1 g.2.2 z)
theorem ok_possible_counts (F : TF T CS CR aS) (cways_to_go : Cl T 4 "ways_to_go" (spWTG CS T)) (D : Dn T "possible_counts" s_possible_counts) : Cl T 5 "possible_counts" (spPossible CS) := by
  refine cl_def D sc_possible_counts bd_possible_counts (fun _ => rfl) fun f cdv A outer s H E hr => ⟨_, (pss_one (ps_ret (pe_lc (own := [("counts", 3)]) rfl nd_possible_counts (piL (⟨rfl, rfl, rfl, rfl, rfl⟩ : At _ T) (pb (⟨rfl, rfl, rfl, rfl, rfl⟩ : At _ T) (cSortD (⟨rfl, rfl, rfl, rfl, rfl⟩ : At _ T) hr) rfl F.sorted boot_sorted (pa_cons (xd_get (P := T.P) (w := T.w) (K := T.K) rfl rfl rfl (hu_of hr) (pc cways_to_go (⟨rfl, rfl, rfl, rfl, rfl⟩ : At _ T) hr (by decide) rfl (pa_cons (pv 0) (pa_cons (pv 1) (pa_cons (pv 2) pa_nil)))) (pgl (⟨rfl, rfl, rfl, rfl, rfl⟩ : At _ T) rfl F.gSTART) (fun _ _ => rfl)) pa_nil))) (blkOk_by (own := [("counts", 3)]) (N := N_possible_counts) (sc := defScope s_possible_counts) (by decide +kernel)) (fun _ _ _ _ _ => (pg_name (i := 3) nd_possible_counts rfl (.inl rfl) (.inr rfl))) (fun _ _ _ _ _ => pts_nil) (fun _ _ _ _ _ => (pbT (⟨rfl, rfl, rfl, rfl, rfl⟩ : At _ T) (cList (⟨rfl, rfl, rfl, rfl, rfl⟩ : At _ T)) rfl F.list boot_list (pa_cons (pv 3) pa_nil)))))), ?_⟩
  rintro ⟨sc, x, y⟩ Fm D eb hok hR -
  have hok : okXY (sc, x, y) := hok
  obtain ⟨hg, hx, hy, ox, oy⟩ := id hok
  have hx : x.length ≤ 3 := hx
  have hy : y.length ≤ 3 := hy
  show Tr Fm [some (sh (qSc CS) sc), some (sh qW x), some (sh qW y), none] _ _
  have hl : ∀ {xs : List (List Int)}, (∃ d, Rep d (Suf sc x y 0 0 0) ∧ xs.Perm (d.map (·.1))) → xs.length ≤ 63 ∧ ∀ c, c ∈ xs ↔ c ∈ Suf sc x y 0 0 0 := fun {xs} ⟨d, hd, pm⟩ => by
    refine ⟨?_, fun c => by rw [pm.mem_iff]; exact rep_keys hd c⟩
    have h1 := hd.len
    have h2 := suf_len sc 0 0 0 hx hy
    rw [pm.length_eq, List.length_map]; omega
  refine tr_ret ((en_lc (r := rL qI) (b := fun _ => true) (q := fun (c : List Int) (z : List Int) => z = c) (ei_list (en_sortD (p := fun d => Rep d (Suf sc x y 0 0 0)) (r := qI) (ed_sh (ev_dget (P := T.P) (w := T.w) (r := qD T.P T.w T.K qI) (pk := (· = [0, 0, 0])) (ed_sh (ev_call3D (p := fun m => WTG sc x y m) (ev_var rfl) (ev_var rfl) (ev_var rfl) (sc, x, y) rfl hok fun _ h => h)) (ev_START F) ?_)) ?_).ev tg_name) (by decide) ?_ (fun _ _ _ _ => et_yes) fun _ _ c _ _ => (en_listT (ev_var rfl)).ev).ev) hR ?_
  · rintro m k hm rfl
    exact hm 0 0 0 (by omega) (by omega) (.inl rfl)
  · intro d hd z hz e
    have h1 := suf_mem_len (hd.mem hz).2.2
    have h2 := (size_range sc).1
    rw [e] at h1
    simp at h1
    omega
  · intro xs h
    have := (hl h).1
    omega
  · rintro z ⟨xs, h, pr⟩
    rw [filter_true'] at pr
    have e : z = xs := by rw [paired_eq (f := fun c : List Int => c) pr]; simp
    rw [e]
    exact ⟨(hl h).2, (hl h).1⟩
abbrev s_is_below : Stmt := topS 33
abbrev N_is_below : List Str := ["one", "two", "a", "b"]
theorem sc_is_below : FnScope N_is_below ["one", "two"] (defScope s_is_below) := ⟨rfl, rfl, rfl, by decide +kernel, rfl, by decide +kernel, by decide +kernel⟩
theorem nd_is_below : N_is_below.Nodup := by decide +kernel
theorem bd_is_below (kV doc pm : Value) (an : Option Addr) (cdv ct : Value) (us : List Value) (hl : us.length = List.length (α := Str) ["one", "two"]) : bindArgs (PySem.W.fnOf "_is_below" "_is_below" (defArgs s_is_below) (defBody s_is_below) (defScope s_is_below) .none kV doc pm an cdv ct) ⟨us, []⟩ = pure (List.zip (α := Str) ["one", "two"] us) := match us, hl with | [_, _], _ => rfl

abbrev spBelow : Sp := spOf (ι := List Int × List Int) (fun _ => none) (fun g => [sh (rL qI) g.1, sh (rL qI) g.2]) (fun g => g.1.length ≤ 1000) qB (fun g z => z = belowF g.1 g.2)
theorem ok_is_below (F : TF T CS CR aS) (D : Dn T "_is_below" s_is_below) : Cl T 1 "_is_below" spBelow := by
  refine cl_def D sc_is_below bd_is_below (fun _ => rfl) fun f cdv A outer s H E hr => ⟨_, (pss_one (ps_ret (pe_and (pe_cmpR (oNeD (⟨rfl, rfl, rfl, rfl, rfl⟩ : At _ T) hr) (pv 0) (pv 1) (nomark _)) (pe_one (pb (⟨rfl, rfl, rfl, rfl, rfl⟩ : At _ T) (cAll (⟨rfl, rfl, rfl, rfl, rfl⟩ : At _ T) rfl) rfl F.all boot_all (pa_cons (pe_lc (own := [("a", 2), ("b", 3)]) rfl nd_is_below (piZ (⟨rfl, rfl, rfl, rfl, rfl⟩ : At _ T) rfl F.zip (pa_cons (pv 0) (pa_cons (pv 1) pa_nil))) (blkOk_by (own := [("a", 2), ("b", 3)]) (N := N_is_below) (sc := defScope s_is_below) (by decide +kernel)) (fun _ _ _ _ _ => (pgT 2 (⟨rfl, rfl, rfl, rfl, rfl⟩ : At _ T) rfl (pgs_cons (pg_name (i := 2) nd_is_below rfl (.inl rfl) (.inr rfl)) (pgs_cons (pg_name (i := 3) nd_is_below rfl (.inl rfl) (.inr rfl)) pgs_nil)))) (fun _ _ _ _ _ => pts_nil) (fun _ _ _ _ _ => (pe_cmpR op_le (pv 2) (pv 3) (nomark _)))) pa_nil)))))), ?_⟩
  rintro ⟨xs, ys⟩ Fm D eb hz hR -
  have hz : xs.length ≤ 1000 := hz
  refine tr_ret (ev_andVD (a := !decide (xs = ys)) (b := (xs.zip ys).all fun p => decide (p.1 ≤ p.2)) (ev_neData (r := rL qI) (p1 := (· = xs)) (p2 := (· = ys)) dat_ints (ev_var rfl) (ev_var rfl) (fun _ _ => trivial) (fun _ _ => trivial) (by rintro _ _ rfl rfl; rfl)) fun _ => ev_all (en_lc (b := fun _ => true) (q := fun (x : Int × Int) (z : Bool) => z = decide (x.1 ≤ x.2)) (ei_zip (r1 := qI) (r2 := qI) (ev_var rfl) (ev_var rfl) tg_pair) (by decide) ?_ (fun _ _ _ _ => et_yes) fun _ _ x _ _ => ev_b0D (ev_var rfl) (ev_var rfl)).ev ?_) hR fun _ e => e
  · rintro _ ⟨_, _, e1, e2, rfl⟩
    obtain rfl := e1.symm; obtain rfl := e2.symm
    show (List.zip xs ys).length < _
    rw [List.length_zip]; omega
  · rintro z ⟨_, ⟨_, _, e1, e2, rfl⟩, h⟩
    obtain rfl := e1.symm; obtain rfl := e2.symm
    rw [filter_true'] at h
    rw [paired_eq (f := fun x : Int × Int => decide (x.1 ≤ x.2)) h, List.all_map]
    rfl
abbrev s_minimal_counts : Stmt := topS 34
abbrev N_minimal_counts : List Str := ["scheme", "first", "second", "found", "counts", "other"]
theorem sc_minimal_counts : FnScope N_minimal_counts ["scheme", "first", "second"] (defScope s_minimal_counts) := ⟨rfl, rfl, rfl, by decide +kernel, rfl, by decide +kernel, by decide +kernel⟩
theorem nd_minimal_counts : N_minimal_counts.Nodup := by decide +kernel
theorem bd_minimal_counts (kV doc pm : Value) (an : Option Addr) (cdv ct : Value) (us : List Value) (hl : us.length = List.length (α := Str) ["scheme", "first", "second"]) : bindArgs (PySem.W.fnOf "minimal_counts" "minimal_counts" (defArgs s_minimal_counts) (defBody s_minimal_counts) (defScope s_minimal_counts) .none kV doc pm an cdv ct) ⟨us, []⟩ = pure (List.zip (α := Str) ["scheme", "first", "second"] us) := match us, hl with | [_, _, _], _ => rfl

abbrev spMinimal (CS : Addr) : Sp := spOf (ι := Sc × List Nat × List Nat) (fun _ => none) (fun g => [sh (qSc CS) g.1, sh qW g.2.1, sh qW g.2.2]) okXY (rL (rL qI)) (fun g z => MinF g.1 g.2.1 g.2.2 z)
theorem ok_minimal_counts (F : TF T CS CR aS) (cpossible_counts : Cl T 5 "possible_counts" (spPossible CS)) (c_is_below : Cl T 1 "_is_below" spBelow) (D : Dn T "minimal_counts" s_minimal_counts) : Cl T 6 "minimal_counts" (spMinimal CS) := by
  refine cl_def D sc_minimal_counts bd_minimal_counts (fun _ => rfl) fun f cdv A outer s H E hr => ⟨_, (pss_cons (ps_set (i := 3) nd_minimal_counts rfl (Or.inr rfl) (pc cpossible_counts (⟨rfl, rfl, rfl, rfl, rfl⟩ : At _ T) hr (by decide) rfl (pa_cons (pv 0) (pa_cons (pv 1) (pa_cons (pv 2) pa_nil)))))
      (pss_one (ps_ret (pe_lc (own := [("counts", 4)]) rfl nd_minimal_counts (piL (⟨rfl, rfl, rfl, rfl, rfl⟩ : At _ T) (pv 3)) (blkOk_by (own := [("counts", 4)]) (N := N_minimal_counts) (sc := defScope s_minimal_counts) (by decide +kernel)) (fun _ _ _ _ _ => (pg_name (i := 4) nd_minimal_counts rfl (.inr rfl) (.inl rfl))) (fun _ _ _ _ _ => (pts_one (pt_not (pt_val (pb (⟨rfl, rfl, rfl, rfl, rfl⟩ : At _ T) (cAny (⟨rfl, rfl, rfl, rfl, rfl⟩ : At _ T) rfl) rfl F.any boot_any (pa_cons (pe_lc (own := [("other", 5)]) rfl nd_minimal_counts (piL (⟨rfl, rfl, rfl, rfl, rfl⟩ : At _ T) (pv 3)) (blkOk_by (own := [("other", 5)]) (by kernel_rfl)) (fun _ _ _ _ _ => (pg_name (i := 5) nd_minimal_counts rfl (.inl rfl) (.inr rfl))) (fun _ _ _ _ _ => pts_nil) (fun _ _ _ _ _ => (pc c_is_below (⟨rfl, rfl, rfl, rfl, rfl⟩ : At _ T) hr (by decide) rfl (pa_cons (pv 5) (pa_cons (pv 4) pa_nil))))) pa_nil)))))) (fun _ _ _ _ _ => (pv 4)))))), ?_⟩
  rintro ⟨sc, x, y⟩ Fm D eb hok hR -
  have hok : okXY (sc, x, y) := hok
  show Tr Fm [some (sh (qSc CS) sc), some (sh qW x), some (sh qW y), none, none, none] _ _
  refine tr_asg (r := rL (rL qI)) (p := fun z => PossF sc x y z) (ev_call3D (ev_var rfl) (ev_var rfl) (ev_var rfl) (sc, x, y) rfl hok fun _ h => h) ?_
  intro fo hfo
  show Tr Fm [some (sh (qSc CS) sc), some (sh qW x), some (sh qW y), some (sh (rL (rL qI)) fo), none, none] _ _
  have hcl : ∀ c ∈ fo, c.length ≤ 1000 := fun c hc => by
    have h1 := suf_mem_len ((hfo.mem c).mp hc)
    have h2 := (size_range sc).2
    omega
  refine tr_ret ((en_lc (r := rL qI) (b := fun c => !fo.any fun o => belowF o c) (q := fun (c : List Int) (z : List Int) => z = c) (ei_list (ev_var (r := rL (rL qI)) rfl) tg_name) (by decide) ?_ ?_ fun _ _ c _ _ => ev_var rfl).ev) hR ?_
  · rintro _ rfl
    have := hfo.len
    omega
  · intro l hl c hc
    rw [hl] at hc
    refine et_notD (et_B (ev_any (pb := (· = fo.any fun o => belowF o c)) (en_lc (b := fun _ => true) (q := fun (o : List Int) (z : Bool) => z = belowF o c) (ei_list (ev_var (r := rL (rL qI)) (x := fo) rfl) tg_name) (by decide) ?_ (fun _ _ _ _ => et_yes) ?_).ev ?_))
    · rintro _ rfl
      have := hfo.len
      omega
    · intro l2 hl2 o ho _
      rw [hl2] at ho
      exact ev_call2D (ev_var rfl) (ev_var rfl) (o, c) rfl (hcl o ho) fun _ h => h
    · rintro z ⟨l2, hl2, h⟩
      rw [filter_true', hl2] at h
      rw [paired_eq (f := fun o => belowF o c) h, List.any_map]
      rfl
  · rintro z ⟨l, hl, pr⟩
    rw [hl] at pr
    have e : z = fo.filter fun c => !fo.any fun o => belowF o c := by rw [paired_eq (f := fun c : List Int => c) pr]; simp
    rw [e]
    refine ⟨fun c => ?_, Nat.le_trans (List.length_filter_le _ _) hfo.len⟩
    rw [List.mem_filter, hfo.mem]
    refine and_congr Iff.rfl ?_
    rw [Bool.not_eq_true', List.any_eq_false]
    constructor
    · intro h o ho
      have := h o ((hfo.mem o).mpr ho)
      simpa using this
    · intro h o ho
      have := h o ((hfo.mem o).mp ho)
      simp [this]
abbrev s_count_with : Stmt := topS 35
abbrev N_count_with : List Str := ["scheme", "first", "second", "counts"]
theorem sc_count_with : FnScope N_count_with ["scheme", "first", "second", "counts"] (defScope s_count_with) := ⟨rfl, rfl, rfl, by decide +kernel, rfl, by decide +kernel, by decide +kernel⟩
theorem nd_count_with : N_count_with.Nodup := by decide +kernel
theorem bd_count_with (kV doc pm : Value) (an : Option Addr) (cdv ct : Value) (us : List Value) (hl : us.length = List.length (α := Str) ["scheme", "first", "second", "counts"]) : bindArgs (PySem.W.fnOf "count_with" "count_with" (defArgs s_count_with) (defBody s_count_with) (defScope s_count_with) .none kV doc pm an cdv ct) ⟨us, []⟩ = pure (List.zip (α := Str) ["scheme", "first", "second", "counts"] us) := match us, hl with | [_, _, _, _], _ => rfl

abbrev spCountWith (CS : Addr) : Sp := spOf (ι := (Sc × List Nat × List Nat) × List Int) (fun _ => none) (fun g => [sh (qSc CS) g.1.1, sh qW g.1.2.1, sh qW g.1.2.2, sh (rL qI) g.2]) (fun g => okXY g.1) qI (fun g z => z = ((Suf g.1.1 g.1.2.1 g.1.2.2 0 0 0).count g.2 : Int))
theorem ok_count_with (F : TF T CS CR aS) (cways_to_go : Cl T 4 "ways_to_go" (spWTG CS T)) (D : Dn T "count_with" s_count_with) : Cl T 5 "count_with" (spCountWith CS) := by
  refine cl_def D sc_count_with bd_count_with (fun _ => rfl) fun f cdv A outer s H E hr => ⟨_, (pss_one (ps_ret (xd_get2 (P := T.P) (w := T.w) (K := T.K) rfl rfl rfl (hu_of hr) (xd_get (P := T.P) (w := T.w) (K := T.K) rfl rfl rfl (hu_of hr) (pc cways_to_go (⟨rfl, rfl, rfl, rfl, rfl⟩ : At _ T) hr (by decide) rfl (pa_cons (pv 0) (pa_cons (pv 1) (pa_cons (pv 2) pa_nil)))) (pgl (⟨rfl, rfl, rfl, rfl, rfl⟩ : At _ T) rfl F.gSTART) (fun _ _ => rfl)) (pbT (⟨rfl, rfl, rfl, rfl, rfl⟩ : At _ T) (cTuple (⟨rfl, rfl, rfl, rfl, rfl⟩ : At _ T)) rfl F.tuple boot_tuple (pa_cons (pv 3) pa_nil)) pe_int ⟨rfl, rfl, rfl, rfl⟩))), ?_⟩
  rintro ⟨⟨sc, x, y⟩, c⟩ Fm D eb hok hR -
  have hok : okXY (sc, x, y) := hok
  show Tr Fm [some (sh (qSc CS) sc), some (sh qW x), some (sh qW y), some (sh (rL qI) c)] _ _
  refine tr_ret (ev_dget2 (r := qI) (px := (· = 0)) (pk := (· = c)) (p := fun d => Rep d (Suf sc x y 0 0 0)) (ed_sh (ev_dget (r := qD T.P T.w T.K qI) (pk := (· = [0, 0, 0])) (ed_sh (ev_call3D (p := fun m => WTG sc x y m) (ev_var rfl) (ev_var rfl) (ev_var rfl) (sc, x, y) rfl hok fun _ h => h)) (ev_START F) ?_)) (ev_tupleL (ev_var rfl)) ev_int ?_) hR fun _ h => h
  · rintro m k hm rfl
    exact hm 0 0 0 (by omega) (by omega) (.inl rfl)
  · rintro d _ _ hd rfl rfl
    exact hd.get _

/-! ### the matches with given counts -/
def pairsF (n m : Nat) : List (List Int) := (List.range n).flatMap fun i : Nat => (List.range m).map fun j : Nat => [(i : Int), (j : Int)]
structure TI (x y : List Nat) (d : DM Int) : Prop where
  nd : (keysM d).Nodup
  key : ∀ k ∈ keysM d, ∃ i j : Nat, k = [(i : Int), (j : Int)] ∧ i < x.length ∧ j < y.length
theorem TI.len {x y : List Nat} {d : DM Int} (h : TI x y d) (hx : x.length ≤ 3) (hy : y.length ≤ 3) : d.length ≤ 9 := by
  have h1 : (keysM d).length ≤ (pairsF x.length y.length).length := nodup_sub h.nd fun k hk => by
    obtain ⟨i, j, rfl, hi, hj⟩ := h.key k hk
    unfold pairsF
    exact List.mem_flatMap.mpr ⟨i, List.mem_range.mpr hi, List.mem_map.mpr ⟨j, List.mem_range.mpr hj, rfl⟩⟩
  unfold keysM at h1
  rw [List.length_map] at h1
  have h2 : (pairsF x.length y.length).length = x.length * y.length := by
    unfold pairsF
    rw [flat_len _ y.length (fun a => by rw [List.length_map, List.length_range]), List.length_range]
  have h3 : x.length * y.length ≤ 3 * 3 := Nat.mul_le_mul hx hy
  omega
theorem TI.put {x y : List Nat} {d : DM Int} (h : TI x y d) {i j : Nat} {v : Int} (hi : i < x.length) (hj : j < y.length) : TI x y (putM d [(i : Int), (j : Int)] v) := by
  refine ⟨nodup_put h.nd, fun k hk => ?_⟩
  rw [keys_put] at hk
  split at hk
  · exact h.key k hk
  · rcases List.mem_append.mp hk with hk | hk
    · exact h.key k hk
    · exact ⟨i, j, List.mem_singleton.mp hk, hi, hj⟩
theorem val_putp {d : DM Int} {i j : Nat} {v : Int} (p : Nat × Nat) : (valM (putM d [(i : Int), (j : Int)] ((valM d [(i : Int), (j : Int)]).getD 0 + v)) [(p.1 : Int), (p.2 : Int)]).getD 0 = (valM d [(p.1 : Int), (p.2 : Int)]).getD 0 + if p = (i, j) then v else 0 := by
  rw [valM_put]
  by_cases h : p = (i, j)
  · subst h
    rw [if_pos rfl, if_pos rfl]; rfl
  · rw [if_neg h, if_neg (fun z => h (by
      simp only [List.cons.injEq, and_true] at z
      exact Prod.ext (by omega) (by omega)))]
    omega
def conM (sc : Sc) (x y : List Nat) (c : List Int) (i j : Nat) (here : DM Int) (p : Nat × Nat) (mv : Int × List Int × List Int) : Int := if mv.1 = 0 ∧ p = (i, j) then inn (fun a => ((Suf sc x y (i + 1) (j + 1) 0).count (restF c a mv.2.2) : Int)) here else 0
theorem conM_sum (sc : Sc) (x y : List Nat) (c : List Int) (i j : Nat) (k : Int) (here : DM Int) (p : Nat × Nat) : ((movesF sc x y i j k).map (conM sc x y c i j here p)).sum = inn (CmK sc x y c p [(i : Int), (j : Int), k]) here := by
  have e1 : ∀ s, conM sc x y c i j here p (1, s) = 0 := fun s => if_neg (fun z => by have z1 := z.1; simp at z1)
  have e2 : ∀ s, conM sc x y c i j here p (2, s) = 0 := fun s => if_neg (fun z => by have z1 := z.1; simp at z1)
  have rest : ∀ l1 l2 : List (Int × List Int × List Int), (∀ mv ∈ l2, conM sc x y c i j here p mv = 0) → ((l1 ++ l2).map (conM sc x y c i j here p)).sum = (l1.map (conM sc x y c i j here p)).sum := by
    intro l1 l2 h
    rw [List.map_append, List.sum_append]
    have : (l2.map (conM sc x y c i j here p)).sum = 0 := by
      induction l2 with
      | nil => rfl
      | cons a l ih =>
        rw [List.map_cons, List.sum_cons, h a List.mem_cons_self, ih fun b hb => h b (List.mem_cons_of_mem _ hb)]; rfl
    omega
  have eC : ∀ a, CmK sc x y c p [(i : Int), (j : Int), k] a = if i = p.1 ∧ j = p.2 ∧ p.1 < x.length ∧ p.2 < y.length then ((Suf sc x y (p.1 + 1) (p.2 + 1) 0).count (restF c a (addedF sc 0 k (x.getD p.1 0) (y.getD p.2 0))) : Int) else 0 := fun a => rfl
  have zero : ∀ d : DM Int, inn (fun _ => (0 : Int)) d = 0 := by
    intro d
    induction d with
    | nil => rfl
    | cons q d ih => rw [inn_cons, ih]; omega
  unfold movesF
  rw [rest]
  · by_cases h : i < x.length ∧ j < y.length
    · rw [if_pos h]
      show conM sc x y c i j here p _ + 0 = _
      rw [Int.add_zero]
      unfold conM
      by_cases hp : p = (i, j)
      · subst hp
        rw [if_pos ⟨rfl, rfl⟩]
        refine inn_congr fun q _ => ?_
        rw [eC, if_pos ⟨rfl, rfl, h.1, h.2⟩]
      · rw [if_neg (fun z => hp z.2), ← zero here]
        refine inn_congr fun q _ => ?_
        rw [eC, if_neg (fun z => hp (by rw [z.1, z.2.1]))]
    · rw [if_neg h]
      show (0 : Int) = _
      rw [← zero here]
      refine inn_congr fun q _ => ?_
      rw [eC, if_neg (by omega)]
  · intro mv hm
    rcases List.mem_append.mp hm with hm | hm
    · split at hm
      · cases List.mem_singleton.mp hm; exact e1 _
      · cases hm
    · split at hm
      · cases List.mem_singleton.mp hm; exact e2 _
      · cases hm
theorem foldp_val (c : List Int) : ∀ (l : DM Int) (d : DM Int), (keysM l).Nodup → (∀ k ∈ keysM l, valM d k = none) → valM ((l.filter fun x => decide (0 < x.2)).foldl (fun m x => putM m x.1 x.2) d) c = (valM d c).or (if 0 < (valM l c).getD 0 then valM l c else none)
  | [], d, _, _ => by simp [valM]
  | q :: l, d, hn, hd => by
    unfold keysM at hn
    rw [List.map_cons, List.nodup_cons] at hn
    have hq : valM d q.1 = none := hd q.1 (by unfold keysM; rw [List.map_cons]; exact List.mem_cons_self)
    have hl : ∀ k ∈ keysM l, valM d k = none := fun k hk => hd k (by unfold keysM; rw [List.map_cons]; exact List.mem_cons_of_mem _ hk)
    rw [List.filter_cons, valM_cons]
    by_cases h0 : 0 < q.2
    · rw [if_pos (decide_eq_true h0), List.foldl_cons, foldp_val c l _ hn.2 (fun k hk => by
        rw [valM_put, if_neg (fun z => hn.1 (by rw [← z]; exact hk))]
        exact hl k hk), valM_put]
      by_cases e : c = q.1
      · subst e
        rw [if_pos rfl, if_pos rfl, hq, valM_none.mpr hn.1]
        simp [h0]
      · have e' : ¬ q.1 = c := fun z => e z.symm
        rw [if_neg e, if_neg e']
    · rw [if_neg (by simpa using h0), foldp_val c l _ hn.2 hl]
      by_cases e : q.1 = c
      · subst e
        rw [if_pos rfl, hq, valM_none.mpr hn.1]
        simp [h0]
      · rw [if_neg e]
theorem foldp_keys : ∀ (l : DM Int) (d : DM Int), ∀ k ∈ keysM ((l.filter fun x => decide (0 < x.2)).foldl (fun m x => putM m x.1 x.2) d), k ∈ keysM d ∨ k ∈ keysM l := by
  intro l d k hk
  have gen : ∀ (l : DM Int) (d : DM Int), k ∈ keysM (l.foldl (fun m x => putM m x.1 x.2) d) → k ∈ keysM d ∨ k ∈ keysM l := by
    intro l
    induction l with
    | nil => intro d h; exact .inl h
    | cons q l ih =>
      intro d h
      rw [List.foldl_cons] at h
      rcases ih _ h with h | h
      · rw [keys_put] at h
        split at h
        · exact .inl h
        · rcases List.mem_append.mp h with h | h
          · exact .inl h
          · rw [List.mem_singleton.mp h]
            exact .inr (by unfold keysM; rw [List.map_cons]; exact List.mem_cons_self)
      · exact .inr (by unfold keysM; rw [List.map_cons]; exact List.mem_cons_of_mem _ h)
  rcases gen _ _ hk with h | h
  · exact .inl h
  · right
    unfold keysM at h ⊢
    obtain ⟨x, hx, rfl⟩ := List.mem_map.mp h
    exact List.mem_map_of_mem (List.mem_filter.mp hx).1
theorem tot_cons (wt : List Int → List Int → Int) (x : List Int × DM Int) (m : DM (DM Int)) : tot wt (m ++ [x]) = tot wt m + inn (wt x.1) x.2 := by
  unfold tot
  rw [List.map_append, List.sum_append]
  simp
abbrev s_matches_with : Stmt := topS 36
abbrev N_matches_with : List Str := ["scheme", "first", "second", "counts", "before", "behind", "told", "node", "here", "kind", "other", "step", "pair", "counted", "ways", "rest"]
theorem sc_matches_with : FnScope N_matches_with ["scheme", "first", "second", "counts"] (defScope s_matches_with) := ⟨rfl, rfl, rfl, by decide +kernel, rfl, by decide +kernel, by decide +kernel⟩
theorem nd_matches_with : N_matches_with.Nodup := by decide +kernel
theorem bd_matches_with (kV doc pm : Value) (an : Option Addr) (cdv ct : Value) (us : List Value) (hl : us.length = List.length (α := Str) ["scheme", "first", "second", "counts"]) : bindArgs (PySem.W.fnOf "matches_with" "matches_with" (defArgs s_matches_with) (defBody s_matches_with) (defScope s_matches_with) .none kV doc pm an cdv ct) ⟨us, []⟩ = pure (List.zip (α := Str) ["scheme", "first", "second", "counts"] us) := match us, hl with | [_, _, _, _], _ => rfl

abbrev spMatches (CS : Addr) (T : Tx) : Sp := spOf (ι := (Sc × List Nat × List Nat) × List Int) (fun _ => none) (fun g => [sh (qSc CS) g.1.1, sh qW g.1.2.1, sh qW g.1.2.2, sh (rL qI) g.2]) (fun g => okXY g.1 ∧ g.2.length = g.1.1.size.toNat) (qD T.P T.w T.K qI) (fun g z => MatF g.1.1 g.1.2.1 g.1.2.2 g.2 z)
theorem ok_matches_with (F : TF T CS CR aS) (cways_from : Cl T 4 "ways_from" (spWF CS T)) (cways_to_go : Cl T 4 "ways_to_go" (spWTG CS T)) (cmoves : Cl T 3 "moves" (spMoves CS T.K)) (c_without : Cl T 1 "_without" (spWithout T.K)) (D : Dn T "matches_with" s_matches_with) : Cl T 5 "matches_with" (spMatches CS T) := by
  refine cl_def D sc_matches_with bd_matches_with (fun _ => rfl) fun f cdv A outer s H E hr => ⟨_, (pss_cons (ps_set (i := 4) nd_matches_with rfl (Or.inl rfl) (pc cways_from (⟨rfl, rfl, rfl, rfl, rfl⟩ : At _ T) hr (by decide) rfl (pa_cons (pv 0) (pa_cons (pv 1) (pa_cons (pv 2) pa_nil)))))
      (pss_cons (ps_set (i := 5) nd_matches_with rfl (Or.inl rfl) (pc cways_to_go (⟨rfl, rfl, rfl, rfl, rfl⟩ : At _ T) hr (by decide) rfl (pa_cons (pv 0) (pa_cons (pv 1) (pa_cons (pv 2) pa_nil)))))
      (pss_cons (ps_set (i := 6) nd_matches_with rfl (Or.inl rfl) (xd_new (P := T.P) (w := T.w) rfl rfl))
      (pss_cons (ps_for PassesOwn.never rfl (xi_items (P := T.P) (w := T.w) rfl rfl (pv 4)) (pgT 2 (⟨rfl, rfl, rfl, rfl, rfl⟩ : At _ T) rfl (pgs_cons (pg_name (i := 7) nd_matches_with rfl (.inl rfl) (.inl rfl)) (pgs_cons (pg_name (i := 8) nd_matches_with rfl (.inl rfl) (.inl rfl)) pgs_nil))) (pss_one (ps_for PassesOwn.never rfl (piL (⟨rfl, rfl, rfl, rfl, rfl⟩ : At _ T) (pc cmoves (⟨rfl, rfl, rfl, rfl, rfl⟩ : At _ T) hr (by decide) rfl (pa_cons (pv 0) (pa_cons (pv 1) (pa_cons (pv 2) (pa_cons (pv 7) pa_nil)))))) (pgT 3 (⟨rfl, rfl, rfl, rfl, rfl⟩ : At _ T) rfl (pgs_cons (pg_name (i := 9) nd_matches_with rfl (.inl rfl) (.inl rfl)) (pgs_cons (pg_name (i := 10) nd_matches_with rfl (.inl rfl) (.inl rfl)) (pgs_cons (pg_name (i := 11) nd_matches_with rfl (.inl rfl) (.inl rfl)) pgs_nil)))) (pss_one (ps_if (pt_cmpR op_eq (pv 9) pe_int (nomark _)) (pss_cons (ps_set (i := 12) nd_matches_with rfl (Or.inl rfl) (pe_tup (pa_cons (ixT (⟨rfl, rfl, rfl, rfl, rfl⟩ : At _ T) (pv 7) pe_int) (pa_cons (ixT (⟨rfl, rfl, rfl, rfl, rfl⟩ : At _ T) (pv 7) pe_int) pa_nil))))
      (pss_one (ps_for PassesOwn.never rfl (xi_items (P := T.P) (w := T.w) rfl rfl (pv 8)) (pgT 2 (⟨rfl, rfl, rfl, rfl, rfl⟩ : At _ T) rfl (pgs_cons (pg_name (i := 13) nd_matches_with rfl (.inl rfl) (.inl rfl)) (pgs_cons (pg_name (i := 14) nd_matches_with rfl (.inl rfl) (.inl rfl)) pgs_nil))) (pss_cons (ps_set (i := 15) nd_matches_with rfl (Or.inl rfl) (pc c_without (⟨rfl, rfl, rfl, rfl, rfl⟩ : At _ T) hr (by decide) rfl (pa_cons (pc c_without (⟨rfl, rfl, rfl, rfl, rfl⟩ : At _ T) hr (by decide) rfl (pa_cons (pbT (⟨rfl, rfl, rfl, rfl, rfl⟩ : At _ T) (cTuple (⟨rfl, rfl, rfl, rfl, rfl⟩ : At _ T)) rfl F.tuple boot_tuple (pa_cons (pv 3) pa_nil)) (pa_cons (pv 13) pa_nil))) (pa_cons (pv 11) pa_nil))))
      (pss_one (xs_put (P := T.P) (w := T.w) (K := T.K) rfl rfl rfl (hu_of hr) (pv 6) (pv 12) (pe_op op_add (xd_get2 (P := T.P) (w := T.w) (K := T.K) rfl rfl rfl (hu_of hr) (pv 6) (pv 12) pe_int ⟨rfl, rfl, rfl, rfl⟩) (pe_op op_mulW (pv 14) (xd_get2 (P := T.P) (w := T.w) (K := T.K) rfl rfl rfl (hu_of hr) (xd_get (P := T.P) (w := T.w) (K := T.K) rfl rfl rfl (hu_of hr) (pv 5) (pv 10) (fun _ _ => rfl)) (pv 15) pe_int ⟨rfl, rfl, rfl, rfl⟩))) rfl)))))) pss_nil)))))
      (pss_one (ps_ret (xd_comp (P := T.P) (w := T.w) (K := T.K) (own := [("pair", 12), ("ways", 14)]) rfl rfl rfl (huA hr) rfl nd_matches_with (xi_items (P := T.P) (w := T.w) rfl rfl (pv 6)) (blkOk_by (own := [("pair", 12), ("ways", 14)]) (N := N_matches_with) (sc := defScope s_matches_with) (by decide +kernel)) (fun _ _ _ _ _ => (pgT 2 (⟨rfl, rfl, rfl, rfl, rfl⟩ : At _ T) rfl (pgs_cons (pg_name (i := 12) nd_matches_with rfl (.inl rfl) (.inr rfl)) (pgs_cons (pg_name (i := 14) nd_matches_with rfl (.inl rfl) (.inr rfl)) pgs_nil)))) (fun _ _ _ _ _ => (pts_one (pt_cmpR op_gt (pv 14) pe_int (nomark _)))) (fun _ _ _ _ _ => (pv 12)) (fun _ _ _ _ _ => (pv 14))))))))), ?_⟩
  rintro ⟨⟨sc, x, y⟩, c⟩ Fm D eb ⟨hok, hc⟩ hR -
  have hok : okXY (sc, x, y) := hok
  have hc : c.length = sc.size.toNat := hc
  obtain ⟨hg, hx, hy, ox, oy⟩ := id hok
  have hg : sc.groups.length ≤ 4 := hg
  have hx : x.length ≤ 3 := hx
  have hy : y.length ≤ 3 := hy
  have hsz := size_range sc
  let QD := qD T.P T.w T.K qI
  show Tr Fm [some (sh (qSc CS) sc), some (sh qW x), some (sh qW y), some (sh (rL qI) c), none, none, none, none, none, none, none, none, none, none, none, none] _ _
  refine tr_asg (r := qD T.P T.w T.K QD) (p := fun m => WF sc x y m) (ev_call3D (ev_var rfl) (ev_var rfl) (ev_var rfl) (sc, x, y) rfl hok fun _ h => h) ?_
  intro bf hbf
  refine tr_asg (r := qD T.P T.w T.K QD) (p := fun m => WTG sc x y m) (ev_call3D (ev_var rfl) (ev_var rfl) (ev_var rfl) (sc, x, y) rfl hok fun _ h => h) ?_
  intro bh hbh
  refine tr_asgNDE (K := T.K) (r := qI) (d := []) end_nil ?_
  let EN : DM Int → Option Ent → Option Ent → Option Ent → Option Ent → Option Ent → EnvA := fun d node here other step pair => [some (sh (qSc CS) sc), some (sh qW x), some (sh qW y), some (sh (rL qI) c), some (sh (qD T.P T.w T.K QD) bf), some (sh (qD T.P T.w T.K QD) bh), some (ownD T.P T.w T.K qI d), node, here, none, other, step, pair, none, none, none]
  show Tr Fm (EN [] none none none none none) _ _
  refine tr_forS (S := DM Int) (ei_items (r := QD) (p := (· = bf)) (ev_var rfl) tg_pair) (fun xs t d => TI x y d ∧ ∀ p : Nat × Nat, (valM d [(p.1 : Int), (p.2 : Int)]).getD 0 = tot (CmK sc x y c p) (xs.take t)) (fun d => EN d none none none none none) ?_ ?_ ?_
  · rintro xs -
    exact ⟨[], ⟨⟨by simp [keysM], fun k hk => by cases hk⟩, fun p => by rw [List.take_zero]; rfl⟩, (by repeat (first | exact lss_nil | apply lss_some | apply lss_none))⟩
  · intro xs hxs B t it hit d0 ⟨hT0, hv0⟩
    obtain rfl := hxs.symm
    obtain ⟨hn, hen, hel⟩ := hbf.ent it.1 it.2 (List.mem_of_getElem? hit)
    obtain ⟨i, j, k, hi, hj, hk, ez⟩ := mem_nodes.mp hn
    show Tr (Fm.at B) (EN d0 (some (sh (qTI T.K) it.1)) (some (sh QD it.2)) none none none) _ _
    refine tr_last (tr_forS (S := DM Int) (ei_list (p := (· = movesF sc x y i j k)) (ev_call4D (x4 := it.1) (ev_var rfl) (ev_var rfl) (ev_var rfl) (ev_var rfl) (sc, x, y, i, j, k) (by rw [ez]) ⟨hg, Nat.le_trans hx (by decide), Nat.le_trans hy (by decide)⟩ fun _ h => h) tg_trip)
      (fun ms s d => TI x y d ∧ ∀ p : Nat × Nat, (valM d [(p.1 : Int), (p.2 : Int)]).getD 0 = (valM d0 [(p.1 : Int), (p.2 : Int)]).getD 0 + ((ms.take s).map (conM sc x y c i j it.2 p)).sum) (fun d => EN d (some (sh (qTI T.K) it.1)) (some (sh QD it.2)) none none none) ?_ ?_ ?_)
    · rintro ms rfl
      exact ⟨d0, ⟨hT0, fun p => by rw [List.take_zero]; show _ = _ + 0; omega⟩, (by repeat (first | exact lss_nil | apply lss_some | apply lss_none))⟩
    · rintro ms rfl B2 s mv hmv d1 ⟨hT1, hv1⟩
      obtain ⟨i', j', e1, e2, hi', hj', hk', hlt, hl3⟩ := move_shape (List.mem_of_getElem? hmv) hi hj
      show Tr _ [some (sh (qSc CS) sc), some (sh qW x), some (sh qW y), some (sh (rL qI) c), some (sh (qD T.P T.w T.K QD) bf), some (sh (qD T.P T.w T.K QD) bh), some (ownD T.P T.w T.K qI d1), some (sh (qTI T.K) it.1), some (sh QD it.2), some (sh qI mv.1), some (sh (qTI T.K) mv.2.1), some (sh (rL qI) mv.2.2), none, none, none, none] _ _
      have tk : ∀ p, (((movesF sc x y i j k).take (s + 1)).map (conM sc x y c i j it.2 p)).sum = (((movesF sc x y i j k).take s).map (conM sc x y c i j it.2 p)).sum + conM sc x y c i j it.2 p mv := fun p => by
        rw [take_succ' hmv, List.map_append, List.sum_append]
        show _ + (_ + 0) = _
        omega
      refine tr_last (tr_ifD (b := decide (mv.1 = 0)) (et_test (ev_eqID (ev_var rfl) ev_int)) (fun hb => ?_) (fun hb => ?_))
      · have h0 : mv.1 = 0 := of_decide_eq_true hb
        have sh0 : i < x.length ∧ j < y.length ∧ mv.2.1 = [((i + 1 : Nat) : Int), ((j + 1 : Nat) : Int), 0] := by
          have hm := List.mem_of_getElem? hmv
          unfold movesF at hm
          rcases List.mem_append.mp hm with hm | hm
          · split at hm
            · rename_i hh
              cases List.mem_singleton.mp hm
              exact ⟨hh.1, hh.2, by simp⟩
            · cases hm
          · rcases List.mem_append.mp hm with hm | hm
            · split at hm
              · cases List.mem_singleton.mp hm; cases h0
              · cases hm
            · split at hm
              · cases List.mem_singleton.mp hm; cases h0
              · cases hm
        obtain ⟨hix, hjy, em⟩ := sh0
        refine tr_assoc (tr_asgD (r := qTI T.K) (x := [(i : Int), (j : Int)]) (ev_tupI2 (ev_ixTI (p := (· = it.1)) (ev_var rfl) (fun _ _ => ev_int) ?_) (ev_ixTI (p := (· = it.1)) (ev_var rfl) (fun _ _ => ev_int) ?_)) ?_)
        · rintro l n e rfl
          rw [e, ez]; exact ⟨_, by decide, rfl, rfl⟩
        · rintro l n e rfl
          rw [e, ez]; exact ⟨_, by decide, rfl, rfl⟩
        refine tr_forS (S := DM Int) (ei_items (r := qI) (p := (· = it.2)) (ev_var rfl) tg_pair)
          (fun its s' d => TI x y d ∧ ∀ p : Nat × Nat, (valM d [(p.1 : Int), (p.2 : Int)]).getD 0 = (valM d1 [(p.1 : Int), (p.2 : Int)]).getD 0 + if p = (i, j) then inn (fun a => ((Suf sc x y (i + 1) (j + 1) 0).count (restF c a mv.2.2) : Int)) (its.take s') else 0)
          (fun d => [some (sh (qSc CS) sc), some (sh qW x), some (sh qW y), some (sh (rL qI) c), some (sh (qD T.P T.w T.K QD) bf), some (sh (qD T.P T.w T.K QD) bh), some (ownD T.P T.w T.K qI d), some (sh (qTI T.K) it.1), some (sh QD it.2), none, some (sh (qTI T.K) mv.2.1), some (sh (rL qI) mv.2.2), some (sh (qTI T.K) [(i : Int), (j : Int)]), none, none, none]) ?_ ?_ ?_
        · rintro its rfl
          exact ⟨d1, ⟨hT1, fun p => by rw [List.take_zero, inn_nil]; split <;> omega⟩, (by repeat (first | exact lss_nil | apply lss_some | apply lss_none))⟩
        · rintro its hits B3 s' q hq d2 ⟨hT2, hv2⟩
          rw [hits] at hq
          obtain ⟨q1, q2, q3⟩ := hen q (List.mem_of_getElem? hq)
          show Tr _ [some (sh (qSc CS) sc), some (sh qW x), some (sh qW y), some (sh (rL qI) c), some (sh (qD T.P T.w T.K QD) bf), some (sh (qD T.P T.w T.K QD) bh), some (ownD T.P T.w T.K qI d2), some (sh (qTI T.K) it.1), some (sh QD it.2), none, some (sh (qTI T.K) mv.2.1), some (sh (rL qI) mv.2.2), some (sh (qTI T.K) [(i : Int), (j : Int)]), some (sh (qTI T.K) q.1), some (sh qI q.2), none] _ _
          refine tr_asgD (r := qTI T.K) (x := restF c q.1 mv.2.2) (ev_call2D (x1 := zw (· - ·) c q.1) (x2 := mv.2.2) (ev_call2D (x1 := c) (x2 := q.1) (ev_tupleL (ev_var rfl)) (ev_seqT (ev_var rfl)) (c, q.1) rfl (by show List.length c ≤ 1000; omega) fun _ h => h) (ev_seqL (ev_var rfl)) (zw (· - ·) c q.1, mv.2.2) rfl (by show (zw (· - ·) c q.1).length ≤ 1000; rw [zw_len]; omega) fun _ h => h) ?_
          have cnt63 : (Suf sc x y (i + 1) (j + 1) 0).count (restF c q.1 mv.2.2) ≤ 63 := Nat.le_trans List.count_le_length (suf_len sc _ _ _ hx hy)
          have l2 := hT2.len hx hy
          refine tr_last (tr_putD (i := 6) (r := qI) (x := (valM d2 [(i : Int), (j : Int)]).getD 0 + q.2 * ((Suf sc x y (i + 1) (j + 1) 0).count (restF c q.1 mv.2.2) : Int)) (kk := [(i : Int), (j : Int)]) rfl
            (ev_i0 (pi := (· = (valM d2 [(i : Int), (j : Int)]).getD 0)) (pj := (· = q.2 * ((Suf sc x y (i + 1) (j + 1) 0).count (restF c q.1 mv.2.2) : Int))) (ev_dget2 (px := (· = 0)) (ed_own rfl) (ev_var rfl) ev_int ?_)
              (ev_iiD (ev_var rfl) (ev_dget2 (r := qI) (p := fun d => Rep d (Suf sc x y (i + 1) (j + 1) 0)) (pk := (· = restF c q.1 mv.2.2)) (px := (· = 0)) (ed_sh (ev_dget (r := QD) (pk := (· = mv.2.1)) (ed_var (r := QD) rfl) (ev_var rfl) ?_)) (ev_var rfl) ev_int ?_) (wide_mul (a := 64) (b := 64) ?_ ?_ (by decide) (by decide) (by decide))) ?_) (ev_var rfl) (by omega) ?_)
          · rintro _ _ _ rfl rfl rfl; rfl
          · rintro _ _ rfl e
            rw [e, em]
            exact hbh (i + 1) (j + 1) 0 (by omega) (by omega) (.inl rfl)
          · rintro dd _ _ hd rfl rfl
            exact hd.get _
          · have : q.2.natAbs ≤ 63 := by omega
            exact Nat.lt_of_le_of_lt this (by decide)
          · have : (((Suf sc x y (i + 1) (j + 1) 0).count (restF c q.1 mv.2.2) : Nat) : Int).natAbs ≤ 63 := by omega
            exact Nat.lt_of_le_of_lt this (by decide)
          · rintro _ _ rfl rfl; rfl
          · refine tr_nx rfl _ ⟨hT2.put hix hjy, fun p => ?_⟩ (by repeat (first | exact lss_nil | apply lss_some | apply lss_none))
            rw [val_putp, hv2, hits]
            by_cases hp : p = (i, j)
            · rw [if_pos hp, if_pos hp, if_pos hp, take_succ' hq, inn_append]; omega
            · rw [if_neg hp, if_neg hp, if_neg hp]; omega
        · rintro its hits d2 ⟨hT2, hv2⟩
          rw [hits, List.take_length] at hv2
          refine tr_nx rfl d2 ⟨hT2, fun p => ?_⟩ (by repeat (first | exact lss_nil | apply lss_some | apply lss_none))
          rw [hv2, hv1, tk]
          unfold conM
          by_cases hp : p = (i, j)
          · rw [if_pos hp, if_pos ⟨h0, hp⟩]; omega
          · rw [if_neg hp, if_neg (fun z => hp z.2)]; omega
      · have h0 : ¬ mv.1 = 0 := of_decide_eq_false hb
        refine tr_nil (tr_nx rfl d1 ⟨hT1, fun p => ?_⟩ (by repeat (first | exact lss_nil | apply lss_some | apply lss_none)))
        rw [hv1, tk]
        unfold conM
        rw [if_neg (fun z => h0 z.1)]; omega
    · rintro ms rfl d1 ⟨hT1, hv1⟩
      rw [List.take_length] at hv1
      refine tr_nx rfl d1 ⟨hT1, fun p => ?_⟩ (by repeat (first | exact lss_nil | apply lss_some | apply lss_none))
      rw [hv1, hv0, take_succ' hit, tot_cons, conM_sum, ez]
  · intro xs hxs d ⟨hT, hv⟩
    obtain rfl := hxs.symm
    rw [List.take_length] at hv
    have hM : ∀ p : Nat × Nat, (valM d [(p.1 : Int), (p.2 : Int)]).getD 0 = (Mcol sc x y c p : Int) := fun p => by
      rw [hv, hbf.tot _ _ (recM sc ox oy hc p), gm_start]
    refine tr_shareD (i := 6) (r := qI) rfl (tr_ret (end_comp (r := qI) (b := fun q => decide (0 < q.2)) (kf := fun q => q.1) (vf := fun q => q.2) (ei_items (r := qI) (p := (· = d)) (ev_var rfl) tg_pair) (by decide) ?_ ?_ (fun _ _ _ _ _ => ev_var rfl) fun _ _ _ _ _ => ev_var rfl).ev hR ?_)
    · rintro _ rfl
      have := hT.len hx hy
      omega
    · rintro _ _ q _
      exact et_test (ev_b0D (ev_var rfl) ev_int)
    · rintro z ⟨d', hd', rfl⟩
      obtain rfl := hd'.symm
      have key : ∀ k ∈ keysM ((d.filter fun x => decide (0 < x.2)).foldl (fun m x => putM m x.1 x.2) []), ∃ i j : Nat, k = [(i : Int), (j : Int)] ∧ i < x.length ∧ j < y.length := fun k hk => by
        rcases foldp_keys d [] k hk with h | h
        · cases h
        · exact hT.key k h
      refine ⟨fun p => ?_, key, ?_⟩
      · show valM ((d.filter fun x => decide (0 < x.2)).foldl (fun m x => putM m x.1 x.2) []) _ = _
        rw [foldp_val _ d [] hT.nd (fun _ _ => rfl)]
        have := hM p
        cases hvp : valM d [(p.1 : Int), (p.2 : Int)] with
        | none =>
          rw [hvp] at this
          have e : Mcol sc x y c p = 0 := by
            have : (0 : Int) = (Mcol sc x y c p : Int) := this
            omega
          rw [if_pos e]; rfl
        | some w =>
          rw [hvp] at this
          have e : w = (Mcol sc x y c p : Int) := this
          show (none : Option Int).or (if 0 < w then some w else none) = _
          rw [e]
          by_cases h : Mcol sc x y c p = 0
          · rw [if_pos h, h]; rfl
          · rw [if_neg h, if_pos (by omega)]; rfl
      · have nd : (keysM ((d.filter fun x => decide (0 < x.2)).foldl (fun m x => putM m x.1 x.2) [])).Nodup := by
          have gen : ∀ (l : DM Int) (d : DM Int), (keysM d).Nodup → (keysM (l.foldl (fun m x => putM m x.1 x.2) d)).Nodup := by
            intro l
            induction l with
            | nil => intro d h; exact h
            | cons q l ih => intro d h; rw [List.foldl_cons]; exact ih _ (nodup_put h)
          exact gen _ _ (by simp [keysM])
        exact TI.len ⟨nd, key⟩ hx hy
end
end Rf
/-! WkH: tables. -/
namespace Rf
open PySem PySem.Spec PyProof.Rows L2
section
variable {T : Tx} {CS CR aS : Addr} {β : Option Addr} {Γ : EnvA} {te ta tb : TE} {K : PySem.W.Frag}
theorem ev_at2 {l : List Int} {i : Nat} (h : Ev β ta Γ (qTI K) (· = l)) (hl : i < l.length) : Ev β (tOp (rIxT K) ta (tC (.int (i : Int)))) Γ qI (· = l.getD i 0) :=
  ev_ixTI h (fun _ _ => ev_int) (by
    intro l' n e1 e2
    subst e1 e2
    exact ⟨_, by omega, by show l'[i]? = _; exact List.getElem?_eq_getElem hl, by rw [List.getD_eq_getElem?_getD, List.getElem?_eq_getElem hl]; rfl⟩)
abbrev s_joined : Stmt := topS 57
abbrev N_joined : List Str := ["one", "two"]
theorem sc_joined : FnScope N_joined ["one", "two"] (defScope s_joined) := ⟨rfl, rfl, rfl, by decide +kernel, rfl, by decide +kernel, by decide +kernel⟩
theorem nd_joined : N_joined.Nodup := by decide +kernel
theorem bd_joined (kV doc pm : Value) (an : Option Addr) (cdv ct : Value) (us : List Value) (hl : us.length = List.length (α := Str) ["one", "two"]) : bindArgs (PySem.W.fnOf "_joined" "_joined" (defArgs s_joined) (defBody s_joined) (defScope s_joined) .none kV doc pm an cdv ct) ⟨us, []⟩ = pure (List.zip (α := Str) ["one", "two"] us) := match us, hl with | [_, _], _ => rfl

abbrev spJoined (K : PySem.W.Frag) : Sp := spOf (ι := Option (List Int) × List Int) (fun _ => none) (fun g => [sh (qO (qTI K)) g.1, sh (qTI K) g.2]) (fun g => (∀ l, g.1 = some l → l.length = 2) ∧ g.2.length = 2) (qTI K) (fun g z => z.length = 2)
theorem ok_joined (F : TF T CS CR aS) (D : Dn T "_joined" s_joined) : Cl T 1 "_joined" (spJoined T.K) := by
  refine cl_def D sc_joined bd_joined (fun _ => rfl) fun f cdv A outer s H E hr => ⟨_, (pss_cons (ps_if (PW.pt (pw_or (pt_cmp (pc_isN (pv 0))) (pw_or1 (pt_cmpR op_lt (ixT (⟨rfl, rfl, rfl, rfl, rfl⟩ : At _ T) (pv 1) pe_int) (ixT (⟨rfl, rfl, rfl, rfl, rfl⟩ : At _ T) (pv 0) pe_int) (nomark _))))) (pss_one (ps_ret (pv 1))) pss_nil)
      (pss_cons (ps_if (pt_cmpR op_gt (ixT (⟨rfl, rfl, rfl, rfl, rfl⟩ : At _ T) (pv 1) pe_int) (ixT (⟨rfl, rfl, rfl, rfl, rfl⟩ : At _ T) (pv 0) pe_int) (nomark _)) (pss_one (ps_ret (pv 0))) pss_nil)
      (pss_one (ps_ret (pe_tup (pa_cons (ixT (⟨rfl, rfl, rfl, rfl, rfl⟩ : At _ T) (pv 0) pe_int) (pa_cons (pe_op op_add (ixT (⟨rfl, rfl, rfl, rfl, rfl⟩ : At _ T) (pv 0) pe_int) (ixT (⟨rfl, rfl, rfl, rfl, rfl⟩ : At _ T) (pv 1) pe_int)) pa_nil))))))), ?_⟩
  rintro ⟨one, two⟩ Fm D eb ⟨h1, h2⟩ hR -
  have h2 : two.length = 2 := h2
  show Tr Fm [some (sh (qO (qTI T.K)) one), some (sh (qTI T.K) two)] _ _
  cases one with
  | none =>
    refine tr_ifD (b := true) (et_or (pb := (· = true)) (et_B (ev_isN (p := (· = none)) (ev_var rfl) (by rintro _ rfl; rfl))) (fun _ => rfl) (fun z => by cases z)) (fun _ => ?_) (fun z => by cases z)
    exact tr_retS (ev_var rfl) hR fun _ e => by rw [e]; exact h2
  | some l =>
    have hl : l.length = 2 := h1 l rfl
    have e1 : Ev Fm.bx (tVar 0) [some (sh (qO (qTI T.K)) (some l)), some (sh (qTI T.K) two)] (qTI T.K) (· = l) := ev_the (p := (· = some l)) (ev_var rfl) (by rintro _ rfl; exact ⟨l, rfl, rfl⟩)
    refine tr_ifD (b := (false || decide (two.getD 0 0 < l.getD 0 0))) (et_orD (et_B (ev_isN (p := (· = some l)) (ev_var rfl) (by rintro _ rfl; rfl))) fun _ => et_test (ev_b0D (ev_at2 (i := 0) (ev_var rfl) (by omega)) (ev_at2 (i := 0) e1 (by omega)))) (fun _ => ?_) (fun _ => tr_nil ?_)
    · exact tr_retS (ev_var rfl) hR fun _ e => by rw [e]; exact h2
    refine tr_ifD (b := decide (l.getD 0 0 < two.getD 0 0)) (et_test (ev_b0D (ev_at2 (i := 0) (ev_var rfl) (by omega)) (ev_at2 (i := 0) e1 (by omega)))) (fun _ => ?_) (fun _ => tr_nil ?_)
    · exact tr_retS e1 hR fun _ e => by rw [e]; exact hl
    exact tr_ret (ev_tupI2 (ev_at2 (i := 0) e1 (by omega)) (ev_i0D (ev_at2 (i := 1) e1 (by omega)) (ev_at2 (i := 1) (ev_var rfl) (by omega)))) hR fun _ e => by rw [e]; rfl
/-- a table's dict -/
structure TbI (x y : List Nat) (d : DM (List Int)) : Prop where
  nd : (keysM d).Nodup
  key : ∀ k ∈ keysM d, k ∈ nodesF x.length y.length
  val : ∀ k l, valM d k = some l → l.length = 2
theorem TbI.len {x y : List Nat} {d : DM (List Int)} (h : TbI x y d) (hx : x.length ≤ 3) (hy : y.length ≤ 3) : d.length ≤ 48 := by
  have h1 : (keysM d).length ≤ (nodesF x.length y.length).length := nodup_sub h.nd h.key
  unfold keysM at h1
  rw [List.length_map, nodes_len] at h1
  have h3 : (x.length + 1) * ((y.length + 1) * 3) ≤ 4 * 12 := Nat.mul_le_mul (by omega) (by omega)
  omega
theorem TbI.put {x y : List Nat} {d : DM (List Int)} (h : TbI x y d) {k : List Int} {l : List Int} (hk : k ∈ nodesF x.length y.length) (hl : l.length = 2) : TbI x y (putM d k l) := by
  refine ⟨nodup_put h.nd, fun k' hk' => ?_, fun k' l' h' => ?_⟩
  · rw [keys_put] at hk'
    split at hk'
    · exact h.key k' hk'
    · rcases List.mem_append.mp hk' with q | q
      · exact h.key k' q
      · rw [List.mem_singleton.mp q]; exact hk
  · rw [valM_put] at h'
    split at h'
    · cases h'; exact hl
    · exact h.val k' l' h'
def okC (c : List Int) : Prop := c.length ≤ 5 ∧ ∀ v ∈ c, v.natAbs < 2 ^ 4000
theorem added_small (sc : Sc) (k b : Int) (x y : Nat) : ∀ v ∈ addedF sc k b x y, v = 0 ∨ v = 1 := by
  have hset : ∀ (l : List Int) (n : Nat), (∀ v ∈ l, v = 0 ∨ v = 1) → ∀ v ∈ l.set n 1, v = 0 ∨ v = 1 := fun l n h v hv => by
    rcases List.mem_or_eq_of_mem_set hv with h1 | h1
    · exact h v h1
    · exact .inr h1
  have hrep : ∀ n v, v ∈ List.replicate n (0 : Int) → v = 0 ∨ v = 1 := fun n v h => .inl (List.eq_of_mem_replicate h)
  unfold addedF
  split
  · split
    · exact hset _ _ (hrep _)
    · exact hrep _
  · refine hset _ _ ?_
    split
    · exact hset _ _ (hrep _)
    · exact hrep _
theorem move_small {sc : Sc} {x y : List Nat} {i j : Nat} {k : Int} {mv : Int × List Int × List Int} (h : mv ∈ movesF sc x y i j k) : ∀ v ∈ mv.2.2, v = 0 ∨ v = 1 := by
  unfold movesF at h
  rcases List.mem_append.mp h with h | h
  · split at h
    · cases List.mem_singleton.mp h; exact added_small sc 0 k (x.getD i 0) (y.getD j 0)
    · cases h
  · rcases List.mem_append.mp h with h | h
    · split at h
      · cases List.mem_singleton.mp h; exact added_small sc 1 k (x.getD i 0) 45
      · cases h
    · split at h
      · cases List.mem_singleton.mp h; exact added_small sc 2 k 45 (y.getD j 0)
      · cases h
abbrev s_come_from : Stmt := topS 58
abbrev N_come_from : List Str := ["scheme", "first", "second", "costs", "found", "node", "cost", "ways", "kind", "other", "told"]
theorem sc_come_from : FnScope N_come_from ["scheme", "first", "second", "costs"] (defScope s_come_from) := ⟨rfl, rfl, rfl, by decide +kernel, rfl, by decide +kernel, by decide +kernel⟩
theorem nd_come_from : N_come_from.Nodup := by decide +kernel
theorem bd_come_from (kV doc pm : Value) (an : Option Addr) (cdv ct : Value) (us : List Value) (hl : us.length = List.length (α := Str) ["scheme", "first", "second", "costs"]) : bindArgs (PySem.W.fnOf "come_from" "come_from" (defArgs s_come_from) (defBody s_come_from) (defScope s_come_from) .none kV doc pm an cdv ct) ⟨us, []⟩ = pure (List.zip (α := Str) ["scheme", "first", "second", "costs"] us) := match us, hl with | [_, _, _, _], _ => rfl

abbrev spComeFrom (CS : Addr) (T : Tx) : Sp := spOf (ι := (Sc × List Nat × List Nat) × List Int) (fun _ => none) (fun g => [sh (qSc CS) g.1.1, sh qW g.1.2.1, sh qW g.1.2.2, sh (rL qI) g.2]) (fun g => okXY g.1 ∧ okC g.2) (qD T.P T.w T.K (qTI T.K)) (fun g z => TbI g.1.2.1 g.1.2.2 z)
theorem ok_come_from (F : TF T CS CR aS) (cnodes : Cl T 1 "nodes" (spNodes T.K)) (cmoves : Cl T 3 "moves" (spMoves CS T.K)) (cproduct : Cl T 1 "product" spProduct) (c_joined : Cl T 1 "_joined" (spJoined T.K)) (D : Dn T "come_from" s_come_from) : Cl T 4 "come_from" (spComeFrom CS T) := by
  refine cl_def D sc_come_from bd_come_from (fun _ => rfl) fun f cdv A outer s H E hr => ⟨_, (pss_cons (ps_set (i := 4) nd_come_from rfl (Or.inl rfl) (xd_disp1 (w := T.w) (K := T.K) (P := T.P) rfl rfl rfl (huA hr) (pgl (⟨rfl, rfl, rfl, rfl, rfl⟩ : At _ T) rfl F.gSTART) (pe_tup (pa_cons pe_int (pa_cons pe_int pa_nil)))))
      (pss_cons (ps_for PassesOwn.never rfl (piL (⟨rfl, rfl, rfl, rfl, rfl⟩ : At _ T) (pc cnodes (⟨rfl, rfl, rfl, rfl, rfl⟩ : At _ T) hr (by decide) rfl (pa_cons (pv 1) (pa_cons (pv 2) pa_nil)))) (pg_name (i := 5) nd_come_from rfl (.inl rfl) (.inl rfl)) (pss_one (ps_if (pt_cmp (xc_in (P := T.P) (w := T.w) (K := T.K) rfl rfl rfl (hu_of hr) (pv 5) (pv 4)) rfl) (pss_cons (ps_asg (xd_get (P := T.P) (w := T.w) (K := T.K) rfl rfl rfl (hu_of hr) (pv 4) (pv 5) (fun _ _ => rfl)) (pgT 2 (⟨rfl, rfl, rfl, rfl, rfl⟩ : At _ T) rfl (pgs_cons (pg_name (i := 6) nd_come_from rfl (.inl rfl) (.inl rfl)) (pgs_cons (pg_name (i := 7) nd_come_from rfl (.inl rfl) (.inl rfl)) pgs_nil))))
      (pss_one (ps_for PassesOwn.never rfl (piL (⟨rfl, rfl, rfl, rfl, rfl⟩ : At _ T) (pc cmoves (⟨rfl, rfl, rfl, rfl, rfl⟩ : At _ T) hr (by decide) rfl (pa_cons (pv 0) (pa_cons (pv 1) (pa_cons (pv 2) (pa_cons (pv 5) pa_nil)))))) (pgT 3 (⟨rfl, rfl, rfl, rfl, rfl⟩ : At _ T) rfl (pgs_cons (pg_name (i := 8) nd_come_from rfl (.inl rfl) (.inl rfl)) (pgs_cons (pg_name (i := 9) nd_come_from rfl (.inl rfl) (.inl rfl)) (pgs_cons (pg_name (i := 10) nd_come_from rfl (.inl rfl) (.inl rfl)) pgs_nil)))) (pss_one (xs_put (P := T.P) (w := T.w) (K := T.K) rfl rfl rfl (hu_of hr) (pv 4) (pv 9) (pc c_joined (⟨rfl, rfl, rfl, rfl, rfl⟩ : At _ T) hr (by decide) rfl (pa_cons (xd_get1 (P := T.P) (w := T.w) (K := T.K) rfl rfl rfl (hu_of hr) (pv 4) (pv 9) ⟨rfl, rfl, rfl, rfl⟩) (pa_cons (pe_tup (pa_cons (pe_op op_add (pv 6) (pc cproduct (⟨rfl, rfl, rfl, rfl, rfl⟩ : At _ T) hr (by decide) rfl (pa_cons (pv 3) (pa_cons (pv 10) pa_nil)))) (pa_cons (pv 7) pa_nil))) pa_nil))) rfl))))) pss_nil)))
      (pss_one (ps_ret (pv 4))))), ?_⟩
  rintro ⟨⟨sc, x, y⟩, c⟩ Fm D eb ⟨⟨hg, hx, hy, ox, oy⟩, hc⟩ hR -
  have hg : sc.groups.length ≤ 4 := hg
  have hx : x.length ≤ 3 := hx
  have hy : y.length ≤ 3 := hy
  have hc : okC c := hc
  let EN : DM (List Int) → Option Ent → EnvA := fun d node => [some (sh (qSc CS) sc), some (sh qW x), some (sh qW y), some (sh (rL qI) c), some (ownD T.P T.w T.K (qTI T.K) d), node, none, none, none, none, none]
  show Tr Fm [some (sh (qSc CS) sc), some (sh qW x), some (sh qW y), some (sh (rL qI) c), none, none, none, none, none, none, none] _ _
  refine tr_asgNDE (K := T.K) (r := qTI T.K) (d := [([0, 0, 0], [0, 1])]) ((end_one (r := qTI T.K) (pk := (· = [0, 0, 0])) (pv := (· = [0, 1])) (ev_START F) (ev_tupI2 ev_int ev_int)).imp ?_) ?_
  · rintro _ ⟨k, v, e1, e2, e3⟩; rw [e3, e1, e2]
  show Tr Fm (EN [([0, 0, 0], [0, 1])] none) _ _
  have start : TbI x y [([0, 0, 0], [0, 1])] := ⟨by simp [keysM], fun k hk => by
    have hk : k = [0, 0, 0] := by simpa [keysM] using hk
    rw [hk]; exact mem_nodes.mpr ⟨0, 0, 0, by omega, by omega, .inl rfl, rfl⟩, fun k l h => by
    rw [valM_cons] at h
    split at h
    · cases h; rfl
    · cases h⟩
  refine tr_forS (S := DM (List Int)) (ei_list (p := (· = nodesF x.length y.length)) (ev_call2D (ev_var rfl) (ev_var rfl) (x, y) rfl ⟨Nat.le_trans hx (by decide), Nat.le_trans hy (by decide)⟩ fun _ h => h) tg_name) (fun xs t d => TbI x y d) (fun d => EN d none) ?_ ?_ ?_
  · rintro xs -
    exact ⟨_, start, (by repeat (first | exact lss_nil | apply lss_some | apply lss_none))⟩
  · intro xs hxs B t z hz d hd
    rw [hxs] at hz
    obtain ⟨i, j, k, hi, hj, hk, ez⟩ := mem_nodes.mp (List.mem_of_getElem? hz)
    show Tr _ (EN d (some (sh (qTI T.K) z))) _ _
    refine tr_last (tr_ifD (b := (valM d z).isSome) (et_B (ev_din (r := qTI T.K) (p := (· = d)) (pk := (· = z)) (ev_var rfl) (ed_own rfl) ?_)) (fun hb => ?_) (fun _ => tr_nil (tr_nx rfl d hd (by repeat (first | exact lss_nil | apply lss_some | apply lss_none)))))
    · rintro _ _ rfl rfl; rfl
    obtain ⟨l, hl⟩ := Option.isSome_iff_exists.mp hb
    have hl2 := hd.val z l hl
    obtain ⟨u, v, el⟩ : ∃ u v, l = [u, v] := by
      match l, hl2 with
      | [u, v], _ => exact ⟨u, v, rfl⟩
    refine tr_assoc (tr_asgT (r := qTI2 T.K) (p := (· = (u, v))) ((ev_dget (r := qTI T.K) (p := (· = d)) (pk := (· = z)) (p3 := (· = [u, v])) (ed_own rfl) (ev_var rfl) ?_).as ?_) tg_ti2 ?_)
    · rintro _ _ rfl rfl; exact ⟨l, hl, el⟩
    · rintro _ rfl; exact ⟨(u, v), rfl, fun _ _ h => h⟩
    rintro _ rfl
    refine tr_forS (S := DM (List Int)) (ei_list (p := (· = movesF sc x y i j k)) (ev_call4D (x4 := z) (ev_var rfl) (ev_var rfl) (ev_var rfl) (ev_var rfl) (sc, x, y, i, j, k) (by rw [ez]) ⟨hg, Nat.le_trans hx (by decide), Nat.le_trans hy (by decide)⟩ fun _ h => h) tg_trip)
      (fun ms s d => TbI x y d) (fun d => [some (sh (qSc CS) sc), some (sh qW x), some (sh qW y), some (sh (rL qI) c), some (ownD T.P T.w T.K (qTI T.K) d), none, some (sh qI u), some (sh qI v), none, none, none]) ?_ ?_ ?_
    · rintro ms -
      exact ⟨d, hd, (by repeat (first | exact lss_nil | apply lss_some | apply lss_none))⟩
    · intro ms hms B2 s mv hmv d1 hd1
      rw [hms] at hmv
      have hm := List.mem_of_getElem? hmv
      obtain ⟨i', j', e1, e2, hi', hj', hk', hlt, hl3⟩ := move_shape hm hi hj
      have hsz := size_range sc
      show Tr _ [some (sh (qSc CS) sc), some (sh qW x), some (sh qW y), some (sh (rL qI) c), some (ownD T.P T.w T.K (qTI T.K) d1), none, some (sh qI u), some (sh qI v), some (sh qI mv.1), some (sh (qTI T.K) mv.2.1), some (sh (rL qI) mv.2.2)] _ _
      refine tr_last (tr_put (i := 4) (r := qTI T.K) (pv := fun l => l.length = 2) (pk := (· = mv.2.1)) rfl (ev_call2 (r1 := qO (qTI T.K)) (p1 := (· = valM d1 mv.2.1)) (r2 := qTI T.K) (p2 := (· = [u + prodF c mv.2.2, v])) (ev_dget1 (r := qTI T.K) qTI_ne (p := (· = d1)) (pk := (· = mv.2.1)) (ed_own rfl) (ev_var rfl) ?_) (ev_tupI2 (ev_i0D (ev_var rfl) (ev_call2D (p := (· = prodF c mv.2.2)) (ev_var rfl) (ev_var rfl) (c, mv.2.2) rfl ⟨?_, hc.2, ?_⟩ fun _ h => h)) (ev_var rfl)) ?_) (ev_var rfl) ?_ ?_)
      · rintro _ _ rfl rfl; rfl
      · have := hc.1; show c.length ≤ 1000; omega
      · intro w hw
        rcases move_small hm w hw with h | h <;> rw [h]
        · exact Nat.pos_of_ne_zero (by simp)
        · show 1 < 2 ^ 900000
          exact Nat.one_lt_two_pow (by decide)
      · rintro a b rfl rfl
        exact ⟨(_, _), rfl, ⟨fun l h => hd1.val _ _ h, rfl⟩, fun _ h => h⟩
      · have := hd1.len hx hy; omega
      · rintro l k2 hl hk2
        have on : k2 ∈ nodesF x.length y.length := by rw [hk2, e1]; exact mem_nodes.mpr ⟨i', j', mv.1, hi', hj', hk', rfl⟩
        exact tr_nx rfl (putM d1 k2 l) (hd1.put on hl) (by repeat (first | exact lss_nil | apply lss_some | apply lss_none))
    · intro ms hms d1 hd1
      exact tr_nx rfl d1 hd1 (by repeat (first | exact lss_nil | apply lss_some | apply lss_none))
  · intro xs hxs d hd
    exact tr_shareD (i := 4) (r := qTI T.K) rfl (tr_retD (ev_var rfl) hR hd)
abbrev s_table_of : Stmt := topS 60
abbrev N_table_of : List Str := ["scheme", "first", "second", "costs", "found", "table", "i", "row", "j", "kind"]
theorem sc_table_of : FnScope N_table_of ["scheme", "first", "second", "costs"] (defScope s_table_of) := ⟨rfl, rfl, rfl, by decide +kernel, rfl, by decide +kernel, by decide +kernel⟩
theorem nd_table_of : N_table_of.Nodup := by decide +kernel
theorem bd_table_of (kV doc pm : Value) (an : Option Addr) (cdv ct : Value) (us : List Value) (hl : us.length = List.length (α := Str) ["scheme", "first", "second", "costs"]) : bindArgs (PySem.W.fnOf "table_of" "table_of" (defArgs s_table_of) (defBody s_table_of) (defScope s_table_of) .none kV doc pm an cdv ct) ⟨us, []⟩ = pure (List.zip (α := Str) ["scheme", "first", "second", "costs"] us) := match us, hl with | [_, _, _, _], _ => rfl

abbrev qRow : RP (List (Option Int)) := rL (qO qI)
abbrev qTab : RP (List (List (List (Option Int)))) := rL (rL qRow)
abbrev spTable (CS : Addr) : Sp := spOf (ι := (Sc × List Nat × List Nat) × List Int) (fun _ => none) (fun g => [sh (qSc CS) g.1.1, sh qW g.1.2.1, sh qW g.1.2.2, sh (rL qI) g.2]) (fun g => okXY g.1 ∧ okC g.2) qTab (fun g z => True)
theorem ok_table_of (F : TF T CS CR aS) (ccome_from : Cl T 4 "come_from" (spComeFrom CS T)) (D : Dn T "table_of" s_table_of) : Cl T 5 "table_of" (spTable CS) := by
  refine cl_def D sc_table_of bd_table_of (fun _ => rfl) fun f cdv A outer s H E hr => ⟨_, (pss_cons (ps_set (i := 4) nd_table_of rfl (Or.inr rfl) (pc ccome_from (⟨rfl, rfl, rfl, rfl, rfl⟩ : At _ T) hr (by decide) rfl (pa_cons (pv 0) (pa_cons (pv 1) (pa_cons (pv 2) (pa_cons (pv 3) pa_nil))))))
      (pss_cons (ps_set (i := 5) nd_table_of rfl (Or.inl rfl) (pe_lst pa_nil))
      (pss_cons (ps_for PassesOwn.never rfl (piR (⟨rfl, rfl, rfl, rfl, rfl⟩ : At _ T) rfl F.range (pa_cons (pe_op op_add (pb (⟨rfl, rfl, rfl, rfl, rfl⟩ : At _ T) cLenS rfl F.len boot_len (pa_cons (pv 1) pa_nil)) pe_int) pa_nil)) (pg_name (i := 6) nd_table_of rfl (.inr rfl) (.inl rfl)) (pss_cons (ps_set (i := 7) nd_table_of rfl (Or.inl rfl) (pe_lst pa_nil))
      (pss_cons (ps_for PassesOwn.never rfl (piR (⟨rfl, rfl, rfl, rfl, rfl⟩ : At _ T) rfl F.range (pa_cons (pe_op op_add (pb (⟨rfl, rfl, rfl, rfl, rfl⟩ : At _ T) cLenS rfl F.len boot_len (pa_cons (pv 2) pa_nil)) pe_int) pa_nil)) (pg_name (i := 8) nd_table_of rfl (.inr rfl) (.inl rfl)) (pss_one (ps_expr (pmAppend (⟨rfl, rfl, rfl, rfl, rfl⟩ : At _ T) (pv 7) (pa_cons (pe_lc (own := [("kind", 9)]) rfl nd_table_of (piR (⟨rfl, rfl, rfl, rfl, rfl⟩ : At _ T) rfl F.range (pa_cons pe_int pa_nil)) (blkOk_by (own := [("kind", 9)]) (N := N_table_of) (sc := defScope s_table_of) (by decide +kernel)) (fun _ _ _ _ _ => (pg_name (i := 9) nd_table_of rfl (.inl rfl) (.inr rfl))) (fun _ _ _ _ _ => pts_nil) (fun _ _ _ _ _ => (pe_ifExp (pt_cmp (xc_in (P := T.P) (w := T.w) (K := T.K) rfl rfl rfl (hu_of hr) (pe_tup (pa_cons (pv 6) (pa_cons (pv 8) (pa_cons (pv 9) pa_nil)))) (pv 4)) rfl) (ixT (⟨rfl, rfl, rfl, rfl, rfl⟩ : At _ T) (xd_get (P := T.P) (w := T.w) (K := T.K) rfl rfl rfl (hu_of hr) (pv 4) (pe_tup (pa_cons (pv 6) (pa_cons (pv 8) (pa_cons (pv 9) pa_nil)))) (fun _ _ => rfl)) pe_int) pe_non))) pa_nil)))))
      (pss_one (ps_expr (pmAppend (⟨rfl, rfl, rfl, rfl, rfl⟩ : At _ T) (pv 5) (pa_cons (pv 7) pa_nil)))))))
      (pss_one (ps_ret (pv 5)))))), ?_⟩
  rintro ⟨⟨sc, x, y⟩, c⟩ Fm D eb ⟨hok, hc⟩ hR -
  have hok : okXY (sc, x, y) := hok
  obtain ⟨hg, hx, hy, ox, oy⟩ := id hok
  have hx : x.length ≤ 3 := hx
  have hy : y.length ≤ 3 := hy
  have hc : okC c := hc
  show Tr Fm [some (sh (qSc CS) sc), some (sh qW x), some (sh qW y), some (sh (rL qI) c), none, none, none, none, none, none] _ _
  refine tr_asg (r := qD T.P T.w T.K (qTI T.K)) (p := fun d => TbI x y d) (ev_call4D (ev_var rfl) (ev_var rfl) (ev_var rfl) (ev_var rfl) ((sc, x, y), c) rfl ⟨hok, hc⟩ fun _ h => h) ?_
  intro fo hfo
  refine tr_asgNE (r := rL qRow) (xs := []) en_nil ?_
  let EN : List (List (List (Option Int))) → Option Ent → Option Ent → Option Ent → EnvA := fun tb i row j => [some (sh (qSc CS) sc), some (sh qW x), some (sh qW y), some (sh (rL qI) c), some (sh (qD T.P T.w T.K (qTI T.K)) fo), some (ownL (rL qRow) tb), i, row, j, none]
  show Tr Fm (EN [] none none none) _ _
  refine tr_forS (S := List (List (List (Option Int)))) (ei_range (pi := (· = (x.length : Int) + 1)) (ev_i0D (ev_lenWD (ev_var rfl) (Nat.le_trans hx (by decide))) ev_int) (by rintro _ rfl; omega) tg_name) (fun xs t tb => tb.length ≤ t) (fun tb => EN tb none none none) ?_ ?_ ?_
  · rintro xs -
    exact ⟨[], Nat.le_refl _, (by repeat (first | exact lss_nil | apply lss_some | apply lss_none))⟩
  · rintro xs ⟨n, hn, hxs⟩ B t i hi tb htb
    obtain ⟨rfl, ht⟩ := range_at hxs hi
    have ht : t < x.length + 1 := by rw [hn] at ht; omega
    show Tr _ (EN tb (some (sh qI (t : Int))) none none) _ _
    refine tr_asgNE (r := qRow) (xs := []) en_nil ?_
    refine tr_forS (S := List (List (Option Int))) (ei_range (pi := (· = (y.length : Int) + 1)) (ev_i0D (ev_lenWD (ev_var rfl) (Nat.le_trans hy (by decide))) ev_int) (by rintro _ rfl; omega) tg_name) (fun xs s row => row.length ≤ s) (fun row => EN tb (some (sh qI (t : Int))) (some (ownL qRow row)) none) ?_ ?_ ?_
    · rintro xs -
      exact ⟨[], Nat.le_refl _, (by repeat (first | exact lss_nil | apply lss_some | apply lss_none))⟩
    · rintro xs ⟨n2, hn2, hxs2⟩ B2 u j hj row hrow
      obtain ⟨rfl, hu⟩ := range_at hxs2 hj
      have hu : u < y.length + 1 := by rw [hn2] at hu; omega
      show Tr _ (EN tb (some (sh qI (t : Int))) (some (ownL qRow row)) (some (sh qI (u : Int)))) _ _
      refine tr_last (tr_append (i := 7) (r := qRow) (p := fun _ => True) rfl ((en_lc (r := qO qI) (b := fun _ => true) (q := fun (_ : Int) (_ : Option Int) => True) (ei_range (pi := (· = 3)) ev_int (by rintro _ rfl; decide) tg_name) (by decide) ?_ (fun _ _ _ _ => et_yes) ?_).ev.imp fun _ _ => trivial) (by omega) ?_)
      · rintro _ ⟨_, rfl, rfl⟩; decide
      · rintro _ _ k _ _
        refine ev_if (pb := (· = (valM fo [(t : Int), (u : Int), k]).isSome)) (et_B (ev_din (r := qTI T.K) (p := (· = fo)) (pk := (· = [(t : Int), (u : Int), k])) (ev_tupI3 (ev_var rfl) (ev_var rfl) (ev_var rfl)) (ed_var (r := qTI T.K) rfl) ?_)) (fun hb => (ev_some qI_ne (ev_ixTI (pj := fun _ => True) (p := fun l => l.length = 2) (ev_dget (r := qTI T.K) (p := (· = fo)) (pk := (· = [(t : Int), (u : Int), k])) (ed_var (r := qTI T.K) rfl) (ev_tupI3 (ev_var rfl) (ev_var rfl) (ev_var rfl)) ?_) (fun _ _ => ev_int) ?_)).imp fun _ _ => trivial) fun _ => ev_none.imp fun _ _ => trivial
        · rintro _ _ rfl rfl; rfl
        · rintro _ _ rfl rfl
          obtain ⟨l, hl⟩ := Option.isSome_iff_exists.mp hb.symm
          exact ⟨l, hl, hfo.val _ _ hl⟩
        · rintro l n hl rfl
          match l, hl with
          | [a, b], _ => exact ⟨a, by decide, rfl, trivial⟩
      · rintro z -
        exact tr_nx rfl (row ++ [z]) (by rw [List.length_append]; show _ + 1 ≤ _; omega) (by repeat (first | exact lss_nil | apply lss_some | apply lss_none))
    · rintro xs - row hrow
      refine tr_share (i := 7) (r := qRow) rfl (tr_last (tr_append (i := 5) (r := rL qRow) (p := fun _ => True) rfl ((ev_var (r := rL qRow) rfl).imp fun _ _ => trivial) (by omega) ?_))
      · rintro z -
        exact tr_nx rfl (tb ++ [z]) (by rw [List.length_append]; show _ + 1 ≤ _; omega) (by repeat (first | exact lss_nil | apply lss_some | apply lss_none))
  · rintro xs - tb htb
    exact tr_share (i := 5) rfl (tr_ret (ev_var rfl) hR fun _ _ => trivial)
end
end Rf
/-! Md: double description: the rays of a cone, cut by one more inequality. -/
namespace Rf.Dd
def dt (a x : List Int) : Int := (List.zipWith (· * ·) a x).sum
def lc (α : Int) (x : List Int) (β : Int) (y : List Int) : List Int := List.zipWith (fun a b => α * a + β * b) x y
def sm (α : Int) (x : List Int) : List Int := x.map (α * ·)
def zeros (n : Nat) : List Int := List.replicate n 0
theorem dt_lc : ∀ (a x y : List Int) (α β : Int), x.length = y.length → dt a (lc α x β y) = α * dt a x + β * dt a y
  | [], _, _, _, _, _ => by simp [dt]
  | _ :: _, [], [], _, _, _ => by simp [dt, lc]
  | _ :: _, [], _ :: _, _, _, h => by simp at h
  | _ :: _, _ :: _, [], _, _, h => by simp at h
  | a :: as, x :: xs, y :: ys, α, β, h => by
    have ih := dt_lc as xs ys α β (by simpa using h)
    unfold dt lc at ih ⊢
    simp only [List.zipWith_cons_cons, List.sum_cons, ih]
    simp only [Int.mul_add]
    have e1 : a * (α * x) = α * (a * x) := by rw [← Int.mul_assoc, Int.mul_comm a α, Int.mul_assoc]
    have e2 : a * (β * y) = β * (a * y) := by rw [← Int.mul_assoc, Int.mul_comm a β, Int.mul_assoc]
    rw [e1, e2]; omega
theorem dt_sm : ∀ (a x : List Int) (α : Int), dt a (sm α x) = α * dt a x
  | [], _, _ => by simp [dt]
  | _ :: _, [], _ => by simp [dt, sm]
  | a :: as, x :: xs, α => by
    have ih := dt_sm as xs α
    unfold dt sm at ih ⊢
    simp only [List.map_cons, List.zipWith_cons_cons, List.sum_cons, ih, Int.mul_add]
    have e1 : a * (α * x) = α * (a * x) := by rw [← Int.mul_assoc, Int.mul_comm a α, Int.mul_assoc]
    rw [e1]
theorem dt_zeros : ∀ (a : List Int) (n : Nat), dt a (zeros n) = 0
  | [], _ => by simp [dt]
  | _ :: _, 0 => by simp [dt, zeros]
  | a :: as, n + 1 => by
    have ih := dt_zeros as n
    unfold dt zeros at ih ⊢
    rw [List.replicate_succ, List.zipWith_cons_cons, List.sum_cons, ih]; simp
theorem lc_len {α β : Int} {x y : List Int} (h : x.length = y.length) : (lc α x β y).length = x.length := by unfold lc; simp [h]
theorem sm_len {α : Int} {x : List Int} : (sm α x).length = x.length := by unfold sm; simp
def comb (n : Nat) : List (Int × List Int) → List Int
  | [] => zeros n
  | q :: L => lc q.1 q.2 1 (comb n L)
theorem comb_len {n : Nat} : ∀ {L : List (Int × List Int)}, (∀ q ∈ L, q.2.length = n) → (comb n L).length = n
  | [], _ => by simp [comb, zeros]
  | q :: L, h => by
    have ih := comb_len (L := L) fun p hp => h p (List.mem_cons_of_mem _ hp)
    have h0 := h q List.mem_cons_self
    unfold comb
    rw [lc_len (by rw [ih, h0]), h0]
theorem dt_comb {n : Nat} (a : List Int) : ∀ {L : List (Int × List Int)}, (∀ q ∈ L, q.2.length = n) → dt a (comb n L) = (L.map fun q => q.1 * dt a q.2).sum
  | [], _ => by unfold comb; rw [dt_zeros]; rfl
  | q :: L, h => by
    have hl := comb_len (L := L) fun p hp => h p (List.mem_cons_of_mem _ hp)
    have ih := dt_comb a (L := L) fun p hp => h p (List.mem_cons_of_mem _ hp)
    have h0 := h q List.mem_cons_self
    unfold comb
    rw [dt_lc _ _ _ _ _ (by rw [hl, h0]), ih, List.map_cons, List.sum_cons]; omega
/-- a sum of what is not negative -/
theorem sum_zero {α : Type} {f : α → Int} : ∀ {l : List α}, (∀ q ∈ l, 0 ≤ f q) → (l.map f).sum ≤ 0 → ∀ q ∈ l, f q = 0
  | [], _, _, q, h => by cases h
  | a :: l, h, hs, q, hq => by
    have nn : ∀ {l : List α}, (∀ q ∈ l, 0 ≤ f q) → 0 ≤ (l.map f).sum := by
      intro l
      induction l with
      | nil => intro _; exact Int.le_refl _
      | cons a l ih =>
        intro h
        rw [List.map_cons, List.sum_cons]
        have := h a List.mem_cons_self
        have := ih fun b hb => h b (List.mem_cons_of_mem _ hb)
        omega
    rw [List.map_cons, List.sum_cons] at hs
    have h1 := nn fun b hb => h b (List.mem_cons_of_mem _ hb)
    have h0 := h a List.mem_cons_self
    rcases List.mem_cons.mp hq with e | hq
    · rw [e]; omega
    · exact sum_zero (fun b hb => h b (List.mem_cons_of_mem _ hb)) (by omega) q hq
theorem sum_pos_ex {α : Type} {f : α → Int} : ∀ {l : List α}, 0 < (l.map f).sum → ∃ q ∈ l, 0 < f q
  | [], h => by simp at h
  | a :: l, h => by
    rw [List.map_cons, List.sum_cons] at h
    by_cases h0 : 0 < f a
    · exact ⟨a, List.mem_cons_self, h0⟩
    · obtain ⟨q, hq, hp⟩ := sum_pos_ex (l := l) (f := f) (by omega)
      exact ⟨q, List.mem_cons_of_mem _ hq, hp⟩
theorem sum_neg_ex {α : Type} {f : α → Int} : ∀ {l : List α}, (l.map f).sum < 0 → ∃ q ∈ l, f q < 0
  | [], h => by simp at h
  | a :: l, h => by
    rw [List.map_cons, List.sum_cons] at h
    by_cases h0 : f a < 0
    · exact ⟨a, List.mem_cons_self, h0⟩
    · obtain ⟨q, hq, hp⟩ := sum_neg_ex (l := l) (f := f) (by omega)
      exact ⟨q, List.mem_cons_of_mem _ hq, hp⟩
theorem mul_pos_iff' {a b : Int} (h : 0 < a) : 0 < a * b ↔ 0 < b := by
  constructor
  · intro hab
    apply Decidable.byContradiction
    intro hb
    have : a * b ≤ a * 0 := Int.mul_le_mul_of_nonneg_left (by omega) (by omega)
    rw [Int.mul_zero] at this; omega
  · intro hb; exact Int.mul_pos h hb
theorem mul_zero_iff' {a b : Int} (h : 0 < a) : a * b = 0 ↔ b = 0 := by
  rw [Int.mul_eq_zero]
  constructor
  · rintro (h1 | h1)
    · omega
    · exact h1
  · intro h1; exact .inr h1
theorem mul_nonneg_iff' {a b : Int} (h : 0 < a) : 0 ≤ a * b ↔ 0 ≤ b := by
  constructor
  · intro hab
    apply Decidable.byContradiction
    intro hb
    have : 0 < a * (-b) := Int.mul_pos h (by omega)
    rw [Int.mul_neg] at this; omega
  · intro hb; exact Int.mul_nonneg (by omega) hb
theorem mul_neg_iff' {a b : Int} (h : 0 < a) : a * b < 0 ↔ b < 0 := by
  have := mul_nonneg_iff' (b := b) h
  omega

/-! ### cones -/
/-- in the cone of A -/
def InC (n : Nat) (A : List (List Int)) (x : List Int) : Prop := x.length = n ∧ ∀ b ∈ A, 0 ≤ dt b x
/-- what is tight at x is tight at y -/
def Tle (A : List (List Int)) (x y : List Int) : Prop := ∀ b ∈ A, dt b x = 0 → dt b y = 0
/-- something is not tight at x -/
def Nz (A : List (List Int)) (x : List Int) : Prop := ∃ b ∈ A, dt b x ≠ 0
/-- how many are not tight at x -/
def nt (A : List (List Int)) (x : List Int) : Nat := (A.filter fun b => !decide (dt b x = 0)).length
theorem filter_le {α : Type} {p q : α → Bool} : ∀ {l : List α}, (∀ a ∈ l, p a = true → q a = true) → (l.filter p).length ≤ (l.filter q).length
  | [], _ => Nat.le_refl _
  | a :: l, h => by
    have ih := filter_le (p := p) (q := q) (l := l) fun b hb => h b (List.mem_cons_of_mem _ hb)
    rw [List.filter_cons, List.filter_cons]
    by_cases hp : p a = true
    · rw [if_pos hp, if_pos (h a List.mem_cons_self hp)]
      simp only [List.length_cons]; omega
    · rw [if_neg hp]
      split
      · simp only [List.length_cons]; omega
      · exact ih
theorem filter_lt {α : Type} {p q : α → Bool} : ∀ {l : List α}, (∀ a ∈ l, p a = true → q a = true) → (∃ a ∈ l, q a = true ∧ p a = false) → (l.filter p).length < (l.filter q).length
  | [], _, h => by obtain ⟨a, h, _⟩ := h; cases h
  | a :: l, h, hx => by
    have hl : ∀ b ∈ l, p b = true → q b = true := fun b hb => h b (List.mem_cons_of_mem _ hb)
    obtain ⟨b, hb, h1, h2⟩ := hx
    rw [List.filter_cons, List.filter_cons]
    rcases List.mem_cons.mp hb with e | hb
    · subst e
      rw [if_neg (by rw [h2]; decide), if_pos h1]
      have := filter_le hl
      simp only [List.length_cons]; omega
    · have ih := filter_lt hl ⟨b, hb, h1, h2⟩
      by_cases hp : p a = true
      · rw [if_pos hp, if_pos (h a List.mem_cons_self hp)]
        simp only [List.length_cons]; omega
      · rw [if_neg hp]
        split
        · simp only [List.length_cons]; omega
        · exact ih
theorem nt_lt {A : List (List Int)} {x y : List Int} (h : Tle A x y) (hx : ∃ b ∈ A, dt b x ≠ 0 ∧ dt b y = 0) : nt A y < nt A x := by
  refine filter_lt (fun b hb hp => ?_) ?_
  · simp only [Bool.not_eq_true', decide_eq_false_iff_not] at hp ⊢
    exact fun z => hp (h b hb z)
  · obtain ⟨b, hb, h1, h2⟩ := hx
    exact ⟨b, hb, by simpa using h1, by simpa using h2⟩
/-- the longest step from x away from y that stays in the cone -/
theorem max_step {n : Nat} {A : List (List Int)} {x y : List Int} (hx : InC n A x) (hy : InC n A y) (ht : Tle A x y) (hn : Nz A y) :
    ∃ α β, 0 < α ∧ 0 < β ∧ InC n A (lc α x (-β) y) ∧ Tle A x (lc α x (-β) y) ∧ ∃ b ∈ A, dt b x ≠ 0 ∧ dt b (lc α x (-β) y) = 0 := by
  have len : x.length = y.length := by rw [hx.1, hy.1]
  -- the least quotient
  have least : ∀ l : List (List Int), (∀ b ∈ l, b ∈ A) → (∃ b ∈ l, dt b y ≠ 0) → ∃ b ∈ l, 0 < dt b y ∧ ∀ d ∈ l, 0 < dt d y → dt b x * dt d y ≤ dt d x * dt b y := by
    intro l
    induction l with
    | nil => intro _ h; obtain ⟨b, h, _⟩ := h; cases h
    | cons a l ih =>
      intro hl hx'
      have ha := hl a List.mem_cons_self
      have hay := hy.2 a ha
      by_cases hq : ∃ b ∈ l, dt b y ≠ 0
      · obtain ⟨b, hb, h1, h2⟩ := ih (fun c hc => hl c (List.mem_cons_of_mem _ hc)) hq
        by_cases h0 : 0 < dt a y
        · by_cases hc : dt b x * dt a y ≤ dt a x * dt b y
          · refine ⟨b, List.mem_cons_of_mem _ hb, h1, fun d hd h3 => ?_⟩
            rcases List.mem_cons.mp hd with e | hd
            · rw [e]; exact hc
            · exact h2 d hd h3
          · refine ⟨a, List.mem_cons_self, h0, fun d hd h3 => ?_⟩
            rcases List.mem_cons.mp hd with e | hd
            · rw [e]; exact Int.le_refl _
            · have q1 := h2 d hd h3
              -- a/ay < b/by ≤ d/dy
              have q2 : dt a x * dt b y ≤ dt b x * dt a y := by omega
              have q3 : dt a x * dt b y * dt d y ≤ dt b x * dt a y * dt d y := Int.mul_le_mul_of_nonneg_right q2 (by omega)
              have q4 : dt b x * dt d y * dt a y ≤ dt d x * dt b y * dt a y := Int.mul_le_mul_of_nonneg_right q1 (by omega)
              have e1 : dt b x * dt a y * dt d y = dt b x * dt d y * dt a y := by rw [Int.mul_assoc, Int.mul_comm (dt a y), ← Int.mul_assoc]
              have e2 : dt a x * dt b y * dt d y = dt b y * (dt a x * dt d y) := by rw [Int.mul_comm (dt a x), Int.mul_assoc]
              have e3 : dt d x * dt b y * dt a y = dt b y * (dt d x * dt a y) := by rw [Int.mul_comm (dt d x), Int.mul_assoc]
              rw [e1] at q3
              have q5 : dt b y * (dt a x * dt d y) ≤ dt b y * (dt d x * dt a y) := by rw [← e2, ← e3]; exact Int.le_trans q3 q4
              exact Int.le_of_mul_le_mul_left q5 h1
        · refine ⟨b, List.mem_cons_of_mem _ hb, h1, fun d hd h3 => ?_⟩
          rcases List.mem_cons.mp hd with e | hd
          · rw [e] at h3; exact (h0 h3).elim
          · exact h2 d hd h3
      · obtain ⟨b, hb, hb0⟩ := hx'
        rcases List.mem_cons.mp hb with e | hb
        · subst e
          refine ⟨b, List.mem_cons_self, by omega, fun d hd h3 => ?_⟩
          rcases List.mem_cons.mp hd with e | hd
          · rw [e]; exact Int.le_refl _
          · exact (hq ⟨d, hd, by omega⟩).elim
        · exact (hq ⟨b, hb, hb0⟩).elim
  obtain ⟨b, hb, h1, h2⟩ := least A (fun _ h => h) hn
  have hbx : 0 < dt b x := by
    have := hx.2 b hb
    have : dt b x ≠ 0 := fun z => by have := ht b hb z; omega
    omega
  have val : ∀ d, dt d (lc (dt b y) x (-(dt b x)) y) = dt b y * dt d x - dt b x * dt d y := fun d => by
    rw [dt_lc _ _ _ _ _ len, Int.neg_mul]; omega
  refine ⟨dt b y, dt b x, h1, hbx, ⟨by rw [lc_len len]; exact hx.1, fun d hd => ?_⟩, fun d hd hz => ?_, b, hb, by omega, ?_⟩
  · rw [val]
    have hdy := hy.2 d hd
    by_cases h0 : 0 < dt d y
    · have := h2 d hd h0
      rw [Int.mul_comm (dt d x)] at this
      omega
    · have e : dt d y = 0 := by omega
      rw [e, Int.mul_zero]
      have := Int.mul_nonneg (Int.le_of_lt h1) (hx.2 d hd)
      omega
  · rw [val, hz, ht d hd hz]; simp
  · rw [val, Int.mul_comm]; omega
end Rf.Dd
/-! Me: the cut keeps a double description. -/
namespace Rf.Dd
abbrev Ry := List Int × List Int
def unitV (n i : Nat) : List Int := (List.range n).map fun k => if k = i then 1 else 0
def gcdV (l : List Int) : Nat := l.foldl (fun g v => Nat.gcd g v.natAbs) 0
def redV (l : List Int) : List Int := if gcdV l = 0 then l else l.map fun v => v / (gcdV l : Int)
def common (p q : Ry) : List Int := p.2.filter fun t => decide (t ∈ q.2)
def rAt (R : List Ry) (i : Nat) : Ry := R.getD i ([], [])
def adj (R : List Ry) (i j : Nat) : Bool := (List.range R.length).all fun k => decide (k = i) || decide (k = j) || !((common (rAt R i) (rAt R j)).all fun t => decide (t ∈ (rAt R k).2))
def mixV (h : Int) (y : List Int) (l : Int) (x : List Int) : List Int := List.zipWith (fun a b => h * b - l * a) x y
def betw (p : Ry) (h : Int) (q : Ry) (l num : Int) : Ry := (redV (mixV h q.1 l p.1), common p q ++ [num])
def kept (a : List Int) (num : Int) (p : Ry) : List Ry := if 0 < dt a p.1 then [p] else if dt a p.1 = 0 then [(p.1, p.2 ++ [num])] else []
def pairOf (a : List Int) (num : Int) (R : List Ry) (i j : Nat) : List Ry := if 0 < dt a (rAt R i).1 ∧ dt a (rAt R j).1 < 0 ∧ adj R i j = true then [betw (rAt R i) (dt a (rAt R i).1) (rAt R j) (dt a (rAt R j).1) num] else []
def pairs (a : List Int) (num : Int) (R : List Ry) : List Ry := (List.range R.length).flatMap fun i => (List.range R.length).flatMap fun j => pairOf a num R i j
def cut (a : List Int) (num : Int) (R : List Ry) : List Ry := R.flatMap (kept a num) ++ pairs a num R

/-! ### vectors -/
theorem mixV_lc : ∀ (h : Int) (y : List Int) (l : Int) (x : List Int), mixV h y l x = lc (-l) x h y
  | _, [], _, [] => rfl
  | _, [], _, _ :: _ => rfl
  | _, _ :: _, _, [] => rfl
  | h, b :: y, l, a :: x => by
    have ih := mixV_lc h y l x
    unfold mixV lc at ih ⊢
    rw [List.zipWith_cons_cons, List.zipWith_cons_cons, ih]
    congr 1
    rw [Int.neg_mul]; omega
theorem zipZero : ∀ (x : List Int) (m : Nat), (List.zipWith (fun x1 x2 => x1 * x2) (List.replicate m 0) x).sum = 0
  | _, 0 => by simp
  | [], m + 1 => by simp
  | a :: x, m + 1 => by rw [List.replicate_succ, List.zipWith_cons_cons, List.sum_cons, zipZero x m]; simp
theorem dt_unit : ∀ (n i : Nat) (x : List Int), i < n → x.length = n → dt (unitV n i) x = x.getD i 0
  | 0, _, _, h, _ => by omega
  | n + 1, 0, [], _, h2 => by simp at h2
  | n + 1, i + 1, [], _, h2 => by simp at h2
  | n + 1, 0, a :: x, _, h2 => by
    unfold dt unitV
    rw [List.range_succ_eq_map, List.map_cons, List.zipWith_cons_cons, List.sum_cons, List.map_map]
    have e : (List.range n).map ((fun k => if k = 0 then (1 : Int) else 0) ∘ Nat.succ) = List.replicate n 0 := by
      apply List.ext_getElem
      · simp
      · intro k h1 h2; simp
    rw [e, zipZero]; simp
  | n + 1, i + 1, a :: x, h1, h2 => by
    have ih := dt_unit n i x (by omega) (by simpa using h2)
    unfold dt unitV at ih ⊢
    rw [List.range_succ_eq_map, List.map_cons, List.zipWith_cons_cons, List.sum_cons, List.map_map]
    have e : (List.range n).map ((fun k => if k = i + 1 then (1 : Int) else 0) ∘ Nat.succ) = (List.range n).map fun k => if k = i then (1 : Int) else 0 := by
      apply List.map_congr_left
      intro k _
      show (if k + 1 = i + 1 then (1 : Int) else 0) = _
      by_cases q : k = i <;> simp [q]
    rw [e, ih]; simp
theorem gcd_fold : ∀ (l : List Int) (g : Nat), (l.foldl (fun g v => Nat.gcd g v.natAbs) g) ∣ g ∧ ∀ v ∈ l, ((l.foldl (fun g v => Nat.gcd g v.natAbs) g : Nat) : Int) ∣ v
  | [], g => ⟨Nat.dvd_refl _, fun _ h => by cases h⟩
  | a :: l, g => by
    obtain ⟨h1, h2⟩ := gcd_fold l (Nat.gcd g a.natAbs)
    rw [List.foldl_cons]
    refine ⟨Nat.dvd_trans h1 (Nat.gcd_dvd_left _ _), fun v hv => ?_⟩
    rcases List.mem_cons.mp hv with e | hv
    · rw [e]
      exact Int.ofNat_dvd_left.mpr (Nat.dvd_trans h1 (Nat.gcd_dvd_right _ _))
    · exact h2 v hv
theorem gcdV_dvd (l : List Int) : ∀ v ∈ l, (gcdV l : Int) ∣ v := (gcd_fold l 0).2
theorem gcd_great : ∀ (l : List Int) (g : Nat) (d : Nat), d ∣ g → (∀ v ∈ l, (d : Int) ∣ v) → d ∣ l.foldl (fun g v => Nat.gcd g v.natAbs) g
  | [], _, _, h, _ => h
  | a :: l, g, d, h, hl => by
    rw [List.foldl_cons]
    exact gcd_great l _ d (Nat.dvd_gcd h (Int.ofNat_dvd_left.mp (hl a List.mem_cons_self))) fun v hv => hl v (List.mem_cons_of_mem _ hv)
theorem gcdV_great {l : List Int} {d : Nat} (h : ∀ v ∈ l, (d : Int) ∣ v) : d ∣ gcdV l := gcd_great l 0 d (Nat.dvd_zero d) h
theorem gcdV_pos {l : List Int} (h : ∃ v ∈ l, v ≠ 0) : 0 < gcdV l := by
  obtain ⟨v, hv, h0⟩ := h
  apply Nat.pos_of_ne_zero
  intro z
  have := gcdV_dvd l v hv
  rw [z] at this
  exact h0 (Int.zero_dvd.mp this)
theorem redV_sm {l : List Int} (h : ∃ v ∈ l, v ≠ 0) : sm (gcdV l) (redV l) = l := by
  have hp := gcdV_pos h
  unfold redV sm
  rw [if_neg (by omega), List.map_map]
  conv => rhs; rw [← List.map_id l]
  apply List.map_congr_left
  intro v hv
  show (gcdV l : Int) * (v / (gcdV l : Int)) = v
  exact Int.mul_ediv_cancel' (gcdV_dvd l v hv)
theorem redV_one {l : List Int} (h : ∃ v ∈ l, v ≠ 0) : gcdV (redV l) = 1 := by
  have hp := gcdV_pos h
  have e := redV_sm h
  have d1 : gcdV l * gcdV (redV l) ∣ gcdV l := by
    refine gcdV_great fun v hv => ?_
    rw [← e] at hv
    unfold sm at hv
    obtain ⟨u, hu, rfl⟩ := List.mem_map.mp hv
    rw [Int.natCast_mul]
    exact Int.mul_dvd_mul_left _ (gcdV_dvd _ u hu)
  have := Nat.le_of_dvd hp d1
  have h0 : gcdV (redV l) ≠ 0 := fun z => by
    have hall : ∀ v ∈ redV l, v = 0 := fun v hv => by
      have := gcdV_dvd _ v hv
      rw [z] at this
      exact Int.zero_dvd.mp this
    obtain ⟨v, hv, h0⟩ := h
    rw [← e] at hv
    unfold sm at hv
    obtain ⟨u, hu, rfl⟩ := List.mem_map.mp hv
    rw [hall u hu] at h0
    simp at h0
  have : gcdV l * gcdV (redV l) ≤ gcdV l * 1 := by omega
  have := Nat.le_of_mul_le_mul_left this hp
  omega
theorem redV_len {l : List Int} : (redV l).length = l.length := by unfold redV; split <;> simp
/-- signs are kept by dividing -/
theorem dt_red {l : List Int} (h : ∃ v ∈ l, v ≠ 0) (b : List Int) : dt b l = (gcdV l : Int) * dt b (redV l) := by
  conv => lhs; rw [← redV_sm h]
  rw [dt_sm]
theorem red_nz {l : List Int} (h : ∃ v ∈ l, v ≠ 0) : ∃ v ∈ redV l, v ≠ 0 := by
  obtain ⟨v, hv, h0⟩ := h
  have e := redV_sm ⟨v, hv, h0⟩
  rw [← e] at hv
  unfold sm at hv
  obtain ⟨u, hu, rfl⟩ := List.mem_map.mp hv
  exact ⟨u, hu, fun z => h0 (by rw [z]; simp)⟩

/-! ### a double description -/
structure DD (n : Nat) (A : List (List Int)) (R : List Ry) : Prop where
  hu : ∀ i, i < n → unitV n i ∈ A
  lr : ∀ p ∈ R, p.1.length = n
  nz : ∀ p ∈ R, ∃ v ∈ p.1, v ≠ 0
  cone : ∀ p ∈ R, ∀ b ∈ A, 0 ≤ dt b p.1
  tight : ∀ p ∈ R, ∀ (i : Nat) (b : List Int), A[i]? = some b → ((i : Int) ∈ p.2 ↔ dt b p.1 = 0)
  rng : ∀ p ∈ R, ∀ t ∈ p.2, ∃ i : Nat, t = (i : Int) ∧ i < A.length
  gen : ∀ x, InC n A x → ∃ (N : Int) (L : List (Int × List Int)), 0 < N ∧ (∀ q ∈ L, 0 < q.1 ∧ ∃ p ∈ R, p.1 = q.2) ∧ sm N x = comb n L
  anti : ∀ (i j : Nat) (p q : Ry), i ≠ j → R[i]? = some p → R[j]? = some q → ¬ ∀ t ∈ p.2, t ∈ q.2
  red : ∀ p ∈ R, gcdV p.1 = 1
section
variable {n : Nat} {A : List (List Int)} {R : List Ry} {a : List Int}
theorem nz_of {x : List Int} (hu : ∀ i, i < n → unitV n i ∈ A) (hx : x.length = n) (h : ∃ v ∈ x, v ≠ 0) : Nz A x := by
  obtain ⟨v, hv, h0⟩ := h
  obtain ⟨i, hi, e⟩ := List.mem_iff_getElem.mp hv
  refine ⟨unitV n i, hu i (by omega), ?_⟩
  rw [dt_unit n i x (by omega) hx, List.getD_eq_getElem?_getD, List.getElem?_eq_getElem hi]
  rw [← e] at h0; exact h0
theorem zero_of {x : List Int} (hu : ∀ i, i < n → unitV n i ∈ A) (hx : x.length = n) (h : ¬ Nz A x) : x = zeros n := by
  apply List.ext_getElem
  · rw [hx]; simp [zeros]
  · intro i h1 h2
    have : dt (unitV n i) x = 0 := Decidable.byContradiction fun z => h ⟨unitV n i, hu i (by omega), z⟩
    rw [dt_unit n i x (by omega) hx, List.getD_eq_getElem?_getD, List.getElem?_eq_getElem h1] at this
    have : x[i] = 0 := this
    rw [this]; simp [zeros]
theorem DD.ent {p : Ry} (d : DD n A R) (hp : p ∈ R) : InC n A p.1 ∧ Nz A p.1 := ⟨⟨d.lr p hp, d.cone p hp⟩, nz_of d.hu (d.lr p hp) (d.nz p hp)⟩
theorem DD.le {p q : Ry} (d : DD n A R) (hp : p ∈ R) (hq : q ∈ R) : (∀ t ∈ p.2, t ∈ q.2) ↔ Tle A p.1 q.1 := by
  constructor
  · intro h b hb h0
    obtain ⟨i, hi, e⟩ := List.mem_iff_getElem.mp hb
    have hi' : A[i]? = some b := by rw [List.getElem?_eq_getElem hi, e]
    exact (d.tight q hq i b hi').mp (h _ ((d.tight p hp i b hi').mpr h0))
  · intro h t ht
    obtain ⟨i, rfl, hi⟩ := d.rng p hp t ht
    have hi' : A[i]? = some A[i] := List.getElem?_eq_getElem hi
    exact (d.tight q hq i _ hi').mpr (h _ (List.getElem_mem hi) ((d.tight p hp i _ hi').mp ht))
theorem mem_common {p q : Ry} {t : Int} : t ∈ common p q ↔ t ∈ p.2 ∧ t ∈ q.2 := by unfold common; simp
theorem DD.third {p q s : Ry} (d : DD n A R) (hp : p ∈ R) (hq : q ∈ R) (hs : s ∈ R) (h : ∀ t ∈ common p q, t ∈ s.2) : ∀ b ∈ A, dt b p.1 = 0 → dt b q.1 = 0 → dt b s.1 = 0 := by
  intro b hb h1 h2
  obtain ⟨i, hi, e⟩ := List.mem_iff_getElem.mp hb
  have hi' : A[i]? = some b := by rw [List.getElem?_eq_getElem hi, e]
  exact (d.tight s hs i b hi').mp (h _ (mem_common.mpr ⟨(d.tight p hp i b hi').mpr h1, (d.tight q hq i b hi').mpr h2⟩))
theorem rAt_some {i : Nat} {p : Ry} (h : R[i]? = some p) : rAt R i = p := by unfold rAt; rw [List.getD_eq_getElem?_getD, h]; rfl
theorem rAt_mem {i : Nat} (h : i < R.length) : R[i]? = some (rAt R i) ∧ rAt R i ∈ R := by
  have : R[i]? = some R[i] := List.getElem?_eq_getElem h
  rw [rAt_some this]
  exact ⟨this, List.getElem_mem h⟩
/-- a mixture of two that lie on the two sides -/
theorem mix_val {p q : List Int} {hp hq : Int} (b : List Int) (h : p.length = q.length) : dt b (mixV hp q hq p) = hp * dt b q - hq * dt b p := by
  rw [mixV_lc, dt_lc _ _ _ _ _ h, Int.neg_mul]; omega
theorem mix_ent {p q : List Int} (hu : ∀ i, i < n → unitV n i ∈ A) (h1 : InC n A p) (h2 : InC n A q) (n1 : Nz A p) (a1 : 0 < dt a p) (a2 : dt a q < 0) :
    InC n (A ++ [a]) (mixV (dt a p) q (dt a q) p) ∧ dt a (mixV (dt a p) q (dt a q) p) = 0 ∧ (∀ b ∈ A, dt b (mixV (dt a p) q (dt a q) p) = 0 ↔ dt b p = 0 ∧ dt b q = 0) ∧ Nz A (mixV (dt a p) q (dt a q) p) ∧ ∃ v ∈ mixV (dt a p) q (dt a q) p, v ≠ 0 := by
  have len : p.length = q.length := by rw [h1.1, h2.1]
  have z : dt a (mixV (dt a p) q (dt a q) p) = 0 := by rw [mix_val _ len, Int.mul_comm]; omega
  have hm : (mixV (dt a p) q (dt a q) p).length = n := by rw [mixV_lc, lc_len len]; exact h1.1
  have val : ∀ b ∈ A, 0 ≤ dt b (mixV (dt a p) q (dt a q) p) ∧ (dt b (mixV (dt a p) q (dt a q) p) = 0 ↔ dt b p = 0 ∧ dt b q = 0) := fun b hb => by
    rw [mix_val _ len]
    have e1 := Int.mul_nonneg (Int.le_of_lt a1) (h2.2 b hb)
    have e2 : 0 ≤ (-(dt a q)) * dt b p := Int.mul_nonneg (by omega) (h1.2 b hb)
    rw [Int.neg_mul] at e2
    refine ⟨by omega, fun h => ?_, fun ⟨h, h'⟩ => by rw [h, h']; simp⟩
    have z1 : dt a p * dt b q = 0 := by omega
    have z2 : (-(dt a q)) * dt b p = 0 := by rw [Int.neg_mul]; omega
    exact ⟨(mul_zero_iff' (by omega)).mp z2, (mul_zero_iff' a1).mp z1⟩
  have nzm : Nz A (mixV (dt a p) q (dt a q) p) := by
    obtain ⟨b, hb, h0⟩ := n1
    exact ⟨b, hb, fun z => h0 ((val b hb).2.mp z).1⟩
  refine ⟨⟨hm, fun b hb => ?_⟩, z, fun b hb => (val b hb).2, nzm, ?_⟩
  · rcases List.mem_append.mp hb with hb | hb
    · exact (val b hb).1
    · rw [List.mem_singleton.mp hb, z]; exact Int.le_refl _
  · apply Decidable.byContradiction
    intro hh
    have : mixV (dt a p) q (dt a q) p = zeros n := by
      apply List.ext_getElem
      · rw [hm]; simp [zeros]
      · intro i h1 h2
        have : (mixV (dt a p) q (dt a q) p)[i] = 0 := Decidable.byContradiction fun z => hh ⟨_, List.getElem_mem h1, z⟩
        rw [this]; simp [zeros]
    obtain ⟨b, _, h0⟩ := nzm
    rw [this, dt_zeros] at h0
    exact h0 rfl
theorem kept_pos {num : Int} {p : Ry} (hp : p ∈ R) (h : 0 < dt a p.1) : ∃ s ∈ cut a num R, s.1 = p.1 := ⟨p, List.mem_append_left _ (List.mem_flatMap.mpr ⟨p, hp, by unfold kept; rw [if_pos h]; exact List.mem_singleton.mpr rfl⟩), rfl⟩
theorem kept_zero {num : Int} {p : Ry} (hp : p ∈ R) (h : dt a p.1 = 0) : ∃ s ∈ cut a num R, s.1 = p.1 := ⟨(p.1, p.2 ++ [num]), List.mem_append_left _ (List.mem_flatMap.mpr ⟨p, hp, by unfold kept; rw [if_neg (by omega), if_pos h]; exact List.mem_singleton.mpr rfl⟩), rfl⟩
theorem nt_app {x y : List Int} (h : Tle (A ++ [a]) x y) (hb : ∃ b ∈ A, dt b x ≠ 0 ∧ dt b y = 0) : nt (A ++ [a]) y < nt (A ++ [a]) x := by
  obtain ⟨b, hb, h1, h2⟩ := hb
  exact nt_lt h ⟨b, List.mem_append_left _ hb, h1, h2⟩
/-- THE CLAIM: what is tight at a point of the cut cone is tight at one of the new rays -/
theorem ex_tight (d : DD n A R) (num : Int) : ∀ (m : Nat) (x : List Int), nt (A ++ [a]) x ≤ m → InC n (A ++ [a]) x → Nz A x → ∃ s ∈ cut a num R, Tle (A ++ [a]) x s.1 := by
  intro m
  induction m with
  | zero =>
    intro x hm hx hn
    exfalso
    obtain ⟨b, hb, h0⟩ := hn
    have : b ∈ (A ++ [a]).filter fun b => !decide (dt b x = 0) := List.mem_filter.mpr ⟨List.mem_append_left _ hb, by simpa using h0⟩
    have := List.length_pos_of_mem this
    unfold nt at hm
    omega
  | succ m ih =>
    intro x hm hx hn
    have hxA : InC n A x := ⟨hx.1, fun b hb => hx.2 b (List.mem_append_left _ hb)⟩
    have hxa : 0 ≤ dt a x := hx.2 a (List.mem_append_right _ (List.mem_singleton.mpr rfl))
    obtain ⟨N, L, hN, hL, e⟩ := d.gen x hxA
    have hLl : ∀ q ∈ L, q.2.length = n := fun q hq => by
      obtain ⟨_, p, hp, ep⟩ := hL q hq
      rw [← ep]; exact d.lr p hp
    have dtx : ∀ b, N * dt b x = (L.map fun q => q.1 * dt b q.2).sum := fun b => by rw [← dt_sm, e, dt_comb b hLl]
    have tle : ∀ q ∈ L, Tle A x q.2 := fun q hq b hb h0 => by
      have h1 : (L.map fun q => q.1 * dt b q.2).sum ≤ 0 := by rw [← dtx, h0]; simp
      have h2 := sum_zero (fun r hr => by
        obtain ⟨hr0, p, hp, ep⟩ := hL r hr
        rw [← ep]
        exact Int.mul_nonneg (Int.le_of_lt hr0) (d.cone p hp b hb)) h1 q hq
      exact (mul_zero_iff' (hL q hq).1).mp h2
    have app : ∀ {y}, Tle A x y → (dt a x = 0 → dt a y = 0) → Tle (A ++ [a]) x y := fun {y} h1 h2 b hb h0 => by
      rcases List.mem_append.mp hb with hb | hb
      · exact h1 b hb h0
      · rw [List.mem_singleton.mp hb] at h0 ⊢; exact h2 h0
    by_cases hpos : 0 < dt a x
    · have h1 : 0 < (L.map fun q => q.1 * dt a q.2).sum := by rw [← dtx]; exact Int.mul_pos hN hpos
      obtain ⟨q, hq, h2⟩ := sum_pos_ex h1
      obtain ⟨hq0, p, hp, ep⟩ := hL q hq
      have h3 : 0 < dt a p.1 := by rw [ep]; exact (mul_pos_iff' hq0).mp h2
      obtain ⟨s, hs, es⟩ := kept_pos (num := num) hp h3
      refine ⟨s, hs, app ?_ fun z => by omega⟩
      rw [es, ep]; exact tle q hq
    have hzero : dt a x = 0 := by omega
    by_cases hz : ∃ q ∈ L, dt a q.2 = 0
    · obtain ⟨q, hq, h0⟩ := hz
      obtain ⟨_, p, hp, ep⟩ := hL q hq
      obtain ⟨s, hs, es⟩ := kept_zero (num := num) (a := a) hp (by rw [ep]; exact h0)
      refine ⟨s, hs, app ?_ fun _ => ?_⟩
      · rw [es, ep]; exact tle q hq
      · rw [es, ep]; exact h0
    -- one on each side
    have hsum : (L.map fun q => q.1 * dt a q.2).sum = 0 := by rw [← dtx, hzero]; simp
    obtain ⟨q0, hq0⟩ : ∃ q, q ∈ L := by
      cases L with
      | nil =>
        exfalso
        obtain ⟨b, hb, h0⟩ := hn
        have := dtx b
        rw [List.map_nil, List.sum_nil] at this
        exact h0 ((mul_zero_iff' hN).mp this)
      | cons q L => exact ⟨q, List.mem_cons_self⟩
    have hpq : (∃ q ∈ L, 0 < dt a q.2) ∧ ∃ q ∈ L, dt a q.2 < 0 := by
      constructor
      · apply Decidable.byContradiction
        intro hh
        have h1 := sum_zero (l := L) (f := fun q => -(q.1 * dt a q.2)) (fun r hr => by
          have h2 : dt a r.2 ≤ 0 := by
            apply Decidable.byContradiction
            intro z
            exact hh ⟨r, hr, by omega⟩
          have := Int.mul_nonneg (Int.le_of_lt (hL r hr).1) (by omega : 0 ≤ -(dt a r.2))
          rw [Int.mul_neg] at this; exact this) (by
          have : (L.map fun q => -(q.1 * dt a q.2)).sum = -(L.map fun q => q.1 * dt a q.2).sum := by
            clear hsum hz hh tle dtx hLl hL e hq0
            induction L with
            | nil => rfl
            | cons r L ih => rw [List.map_cons, List.map_cons, List.sum_cons, List.sum_cons, ih]; omega
          rw [this, hsum]; simp) q0 hq0
        exact hz ⟨q0, hq0, (mul_zero_iff' (hL q0 hq0).1).mp (by have : -(q0.1 * dt a q0.2) = 0 := h1; omega)⟩
      · apply Decidable.byContradiction
        intro hh
        have h1 := sum_zero (l := L) (f := fun q => q.1 * dt a q.2) (fun r hr => by
          have h2 : 0 ≤ dt a r.2 := by
            apply Decidable.byContradiction
            intro z
            exact hh ⟨r, hr, by omega⟩
          exact Int.mul_nonneg (Int.le_of_lt (hL r hr).1) h2) (by rw [hsum]; exact Int.le_refl _) q0 hq0
        exact hz ⟨q0, hq0, (mul_zero_iff' (hL q0 hq0).1).mp h1⟩
    obtain ⟨⟨u, hu, hu0⟩, v, hv, hv0⟩ := hpq
    obtain ⟨_, p, hp, ep⟩ := hL u hu
    obtain ⟨_, q, hq, eq⟩ := hL v hv
    have tp : Tle A x p.1 := by rw [ep]; exact tle u hu
    have tq : Tle A x q.1 := by rw [eq]; exact tle v hv
    rw [← ep] at hu0
    rw [← eq] at hv0
    obtain ⟨i, hi, ei⟩ := List.mem_iff_getElem.mp hp
    obtain ⟨j, hj, ej⟩ := List.mem_iff_getElem.mp hq
    have gi : R[i]? = some p := by rw [List.getElem?_eq_getElem hi, ei]
    have gj : R[j]? = some q := by rw [List.getElem?_eq_getElem hj, ej]
    obtain ⟨cp, np⟩ := d.ent hp
    obtain ⟨cq, nq⟩ := d.ent hq
    obtain ⟨w1, w2, w3, w4, w5⟩ := mix_ent (a := a) d.hu cp cq np hu0 hv0
    have tw : Tle (A ++ [a]) x (mixV (dt a p.1) q.1 (dt a q.1) p.1) := app (fun b hb h0 => (w3 b hb).mpr ⟨tp b hb h0, tq b hb h0⟩) fun _ => w2
    by_cases had : adj R i j = true
    · refine ⟨betw (rAt R i) (dt a (rAt R i).1) (rAt R j) (dt a (rAt R j).1) num, List.mem_append_right _ (List.mem_flatMap.mpr ⟨i, List.mem_range.mpr hi, List.mem_flatMap.mpr ⟨j, List.mem_range.mpr hj, ?_⟩⟩), ?_⟩
      · unfold pairOf
        rw [if_pos ⟨by rw [rAt_some gi]; exact hu0, by rw [rAt_some gj]; exact hv0, had⟩]
        exact List.mem_singleton.mpr rfl
      · rw [rAt_some gi, rAt_some gj]
        intro b hb h0
        have h1 := tw b hb h0
        rw [dt_red w5] at h1
        exact (mul_zero_iff' (by have := gcdV_pos w5; omega)).mp h1
    -- a third one
    obtain ⟨k, hk, hki, hkj, hs0⟩ : ∃ k, k < R.length ∧ k ≠ i ∧ k ≠ j ∧ ∀ t ∈ common (rAt R i) (rAt R j), t ∈ (rAt R k).2 := by
      unfold adj at had
      rw [Bool.not_eq_true, List.all_eq_false] at had
      obtain ⟨k, hk, h⟩ := had
      simp only [Bool.or_eq_true, decide_eq_true_eq, Bool.not_eq_true', not_or, Bool.not_eq_false, List.all_eq_true] at h
      exact ⟨k, List.mem_range.mp hk, h.1.1, h.1.2, fun t ht => h.2 t ht⟩
    obtain ⟨gk, hs⟩ := rAt_mem (R := R) hk
    rw [rAt_some gi, rAt_some gj] at hs0
    generalize rAt R k = s at gk hs hs0
    obtain ⟨cs, ns⟩ := d.ent hs
    have ts := d.third hp hq hs hs0
    have tsx : Tle A x s.1 := fun b hb h0 => ts b hb (tp b hb h0) (tq b hb h0)
    -- by a point with more tight
    have more : ∀ y, InC n (A ++ [a]) y → Nz A y → Tle (A ++ [a]) x y → (∃ b ∈ A, dt b x ≠ 0 ∧ dt b y = 0) → ∃ s ∈ cut a num R, Tle (A ++ [a]) x s.1 := fun y hy ny ty hb => by
      obtain ⟨r, hr, tr⟩ := ih y (by have := nt_app ty hb; omega) hy ny
      exact ⟨r, hr, fun b hb h0 => tr b hb (ty b hb h0)⟩
    by_cases mw : ∃ b ∈ A, dt b x ≠ 0 ∧ dt b (mixV (dt a p.1) q.1 (dt a q.1) p.1) = 0
    · exact more _ w1 w4 tw mw
    -- two mixtures with the same tight ones
    have two : ∀ y, InC n (A ++ [a]) y → Nz A y → Tle (A ++ [a]) x y → dt a y = 0 → (∀ α β, 0 < α → 0 < β → (∀ b ∈ A, α * dt b (mixV (dt a p.1) q.1 (dt a q.1) p.1) = β * dt b y) → False) → ∃ s ∈ cut a num R, Tle (A ++ [a]) x s.1 := fun y hy ny ty ya par => by
      by_cases my : ∃ b ∈ A, dt b x ≠ 0 ∧ dt b y = 0
      · exact more y hy ny ty my
      have twy : Tle (A ++ [a]) (mixV (dt a p.1) q.1 (dt a q.1) p.1) y := fun b hb h0 => by
        rcases List.mem_append.mp hb with hb | hb
        · have : dt b x = 0 := Decidable.byContradiction fun z => mw ⟨b, hb, z, h0⟩
          exact ty b (List.mem_append_left _ hb) this
        · rw [List.mem_singleton.mp hb]; exact ya
      have nzy : Nz (A ++ [a]) y := by
        obtain ⟨b, hb, h0⟩ := ny
        exact ⟨b, List.mem_append_left _ hb, h0⟩
      obtain ⟨α, β, hα, hβ, z1, z2, b, hb, z3, z4⟩ := max_step w1 hy twy nzy
      have len : (mixV (dt a p.1) q.1 (dt a q.1) p.1).length = y.length := by rw [w1.1, hy.1]
      by_cases nzz : Nz A (lc α (mixV (dt a p.1) q.1 (dt a q.1) p.1) (-β) y)
      · refine more _ z1 nzz (fun b hb h0 => z2 b hb (tw b hb h0)) ?_
        rcases List.mem_append.mp hb with hb | hb
        · exact ⟨b, hb, fun z => z3 (tw b (List.mem_append_left _ hb) z), z4⟩
        · rw [List.mem_singleton.mp hb] at z3
          exact (z3 w2).elim
      · exfalso
        refine par α β hα hβ fun b hb => ?_
        have : dt b (lc α (mixV (dt a p.1) q.1 (dt a q.1) p.1) (-β) y) = 0 := Decidable.byContradiction fun z => nzz ⟨b, hb, z⟩
        rw [dt_lc _ _ _ _ _ len, Int.neg_mul] at this
        omega
    have lpq : p.1.length = q.1.length := by rw [cp.1, cq.1]
    by_cases s0 : dt a s.1 = 0
    · obtain ⟨r, hr, er⟩ := kept_zero (num := num) hs s0
      exact ⟨r, hr, by rw [er]; exact app tsx fun _ => s0⟩
    by_cases spos : 0 < dt a s.1
    · obtain ⟨y1, y2, y3, y4, y5⟩ := mix_ent (a := a) d.hu cs cq ns spos hv0
      refine two _ y1 y4 (app (fun b hb h0 => (y3 b hb).mpr ⟨tsx b hb h0, tq b hb h0⟩) fun _ => y2) y2 fun α β hα hβ h => ?_
      have lsq : s.1.length = q.1.length := by rw [cs.1, cq.1]
      -- α u Bp + m Bq = β u Bs
      have key : ∀ b ∈ A, α * (-(dt a q.1)) * dt b p.1 + (α * dt a p.1 - β * dt a s.1) * dt b q.1 = β * (-(dt a q.1)) * dt b s.1 := fun b hb => by
        have := h b hb
        rw [mix_val _ lpq, mix_val _ lsq, Int.mul_sub, Int.mul_sub] at this
        rw [Int.sub_mul, Int.mul_neg, Int.mul_neg, Int.neg_mul, Int.neg_mul]
        simp only [Int.mul_assoc] at this ⊢
        omega
      have au : 0 < α * (-(dt a q.1)) := Int.mul_pos hα (by omega)
      have bu : 0 < β * (-(dt a q.1)) := Int.mul_pos hβ (by omega)
      by_cases hm0 : 0 ≤ α * dt a p.1 - β * dt a s.1
      · refine d.anti k i s p hki gk gi ((d.le hs hp).mpr fun b hb h0 => ?_)
        have k1 := key b hb
        rw [h0, Int.mul_zero] at k1
        have k2 := Int.mul_nonneg (Int.le_of_lt au) (cp.2 b hb)
        have k3 := Int.mul_nonneg hm0 (cq.2 b hb)
        exact (mul_zero_iff' au).mp (by omega)
      · refine d.anti i k p s (fun z => hki z.symm) gi gk ((d.le hp hs).mpr fun b hb h0 => ?_)
        have k1 := key b hb
        rw [h0, Int.mul_zero] at k1
        have k2 := Int.mul_nonneg (Int.le_of_lt bu) (cs.2 b hb)
        have k3 : 0 ≤ (-(α * dt a p.1 - β * dt a s.1)) * dt b q.1 := Int.mul_nonneg (by omega) (cq.2 b hb)
        rw [Int.neg_mul] at k3
        exact (mul_zero_iff' bu).mp (by omega)
    · have sneg : dt a s.1 < 0 := by omega
      obtain ⟨y1, y2, y3, y4, y5⟩ := mix_ent (a := a) d.hu cp cs np hu0 sneg
      refine two _ y1 y4 (app (fun b hb h0 => (y3 b hb).mpr ⟨tp b hb h0, tsx b hb h0⟩) fun _ => y2) y2 fun α β hα hβ h => ?_
      have lps : p.1.length = s.1.length := by rw [cp.1, cs.1]
      have key : ∀ b ∈ A, α * dt a p.1 * dt b q.1 + (β * dt a s.1 - α * dt a q.1) * dt b p.1 = β * dt a p.1 * dt b s.1 := fun b hb => by
        have := h b hb
        rw [mix_val _ lpq, mix_val _ lps, Int.mul_sub, Int.mul_sub] at this
        rw [Int.sub_mul]
        simp only [Int.mul_assoc] at this ⊢
        omega
      have au : 0 < α * dt a p.1 := Int.mul_pos hα hu0
      have bu : 0 < β * dt a p.1 := Int.mul_pos hβ hu0
      by_cases hm0 : 0 ≤ β * dt a s.1 - α * dt a q.1
      · refine d.anti k j s q hkj gk gj ((d.le hs hq).mpr fun b hb h0 => ?_)
        have k1 := key b hb
        rw [h0, Int.mul_zero] at k1
        have k2 := Int.mul_nonneg (Int.le_of_lt au) (cq.2 b hb)
        have k3 := Int.mul_nonneg hm0 (cp.2 b hb)
        exact (mul_zero_iff' au).mp (by omega)
      · refine d.anti j k q s (fun z => hkj z.symm) gj gk ((d.le hq hs).mpr fun b hb h0 => ?_)
        have k1 := key b hb
        rw [h0, Int.mul_zero] at k1
        have k2 := Int.mul_nonneg (Int.le_of_lt bu) (cs.2 b hb)
        have k3 : 0 ≤ (-(β * dt a s.1 - α * dt a q.1)) * dt b p.1 := Int.mul_nonneg (by omega) (cp.2 b hb)
        rw [Int.neg_mul] at k3
        exact (mul_zero_iff' bu).mp (by omega)
end
end Rf.Dd
/-! Mh: the cut keeps a double description. -/
namespace Rf.Dd
section
variable {n : Nat} {A : List (List Int)} {R : List Ry} {a : List Int} {num : Int}
def sub (p q : Ry) : Prop := ∀ t ∈ p.2, t ∈ q.2
theorem mem_kept {p s : Ry} (h : s ∈ kept a num p) : (0 < dt a p.1 ∧ s = p) ∨ (dt a p.1 = 0 ∧ s = (p.1, p.2 ++ [num])) := by
  unfold kept at h
  split at h
  · rename_i h0; exact .inl ⟨h0, List.mem_singleton.mp h⟩
  · split at h
    · rename_i h0; exact .inr ⟨h0, List.mem_singleton.mp h⟩
    · cases h
theorem mem_pairOf {i j : Nat} {s : Ry} (h : s ∈ pairOf a num R i j) : 0 < dt a (rAt R i).1 ∧ dt a (rAt R j).1 < 0 ∧ adj R i j = true ∧ s = betw (rAt R i) (dt a (rAt R i).1) (rAt R j) (dt a (rAt R j).1) num := by
  unfold pairOf at h
  split at h
  · rename_i h0; exact ⟨h0.1, h0.2.1, h0.2.2, List.mem_singleton.mp h⟩
  · cases h
theorem mem_cut {s : Ry} (h : s ∈ cut a num R) : (∃ p ∈ R, s ∈ kept a num p) ∨ ∃ i j, i < R.length ∧ j < R.length ∧ s ∈ pairOf a num R i j := by
  unfold cut at h
  rcases List.mem_append.mp h with h | h
  · obtain ⟨p, hp, h⟩ := List.mem_flatMap.mp h
    exact .inl ⟨p, hp, h⟩
  · unfold pairs at h
    obtain ⟨i, hi, h⟩ := List.mem_flatMap.mp h
    obtain ⟨j, hj, h⟩ := List.mem_flatMap.mp h
    exact .inr ⟨i, j, List.mem_range.mp hi, List.mem_range.mp hj, h⟩
theorem adj_at {i j k : Nat} (h : adj R i j = true) (hk : k < R.length) (h1 : k ≠ i) (h2 : k ≠ j) : ¬ ∀ t ∈ common (rAt R i) (rAt R j), t ∈ (rAt R k).2 := by
  intro hh
  unfold adj at h
  have := List.all_eq_true.mp h k (List.mem_range.mpr hk)
  simp only [Bool.or_eq_true, decide_eq_true_eq, Bool.not_eq_true', h1, h2, false_or] at this
  rw [Bool.eq_false_iff] at this
  exact this (List.all_eq_true.mpr fun t ht => decide_eq_true (hh t ht))
theorem at_app {i : Nat} {b : List Int} (h : (A ++ [a])[i]? = some b) : A[i]? = some b ∨ (i = A.length ∧ b = a) := by
  by_cases hi : i < A.length
  · rw [List.getElem?_append_left hi] at h; exact .inl h
  · rw [List.getElem?_append_right (by omega)] at h
    by_cases hz : i - A.length = 0
    · rw [hz] at h
      exact .inr ⟨by omega, (Option.some.inj h).symm⟩
    · rw [List.getElem?_eq_none (by simp; omega)] at h; cases h
theorem DD.nonum (d : DD n A R) {p : Ry} (hp : p ∈ R) : (A.length : Int) ∉ p.2 := fun h => by
  obtain ⟨i, e, hi⟩ := d.rng p hp _ h
  omega
theorem DD.idx (d : DD n A R) {p : Ry} (hp : p ∈ R) {i : Nat} (h : (i : Int) ∈ p.2) : i < A.length := by
  obtain ⟨k, e, hk⟩ := d.rng p hp _ h
  omega
/-- all that is asked of one new ray -/
structure One (n : Nat) (D : List (List Int)) (s : Ry) : Prop where
  lr : s.1.length = n
  nz : ∃ v ∈ s.1, v ≠ 0
  cone : ∀ b ∈ D, 0 ≤ dt b s.1
  tight : ∀ (i : Nat) (b : List Int), D[i]? = some b → ((i : Int) ∈ s.2 ↔ dt b s.1 = 0)
  rng : ∀ t ∈ s.2, ∃ i : Nat, t = (i : Int) ∧ i < D.length
  red : gcdV s.1 = 1
theorem one_kept (d : DD n A R) {p s : Ry} (hp : p ∈ R) (h : s ∈ kept a (A.length : Int) p) : One n (A ++ [a]) s := by
  have hle : A.length < (A ++ [a]).length := by rw [List.length_append]; show _ < _ + 1; omega
  rcases mem_kept h with ⟨h0, rfl⟩ | ⟨h0, rfl⟩
  · refine ⟨d.lr s hp, d.nz s hp, fun b hb => ?_, fun i b hb => ?_, fun t ht => ?_, d.red s hp⟩
    · rcases List.mem_append.mp hb with hb | hb
      · exact d.cone s hp b hb
      · rw [List.mem_singleton.mp hb]; omega
    · rcases at_app hb with hb | ⟨rfl, rfl⟩
      · exact d.tight s hp i b hb
      · exact ⟨fun h => (d.nonum hp h).elim, fun h => by omega⟩
    · obtain ⟨i, e, hi⟩ := d.rng s hp t ht
      exact ⟨i, e, by omega⟩
  · refine ⟨d.lr p hp, d.nz p hp, fun b hb => ?_, fun i b hb => ?_, fun t ht => ?_, d.red p hp⟩
    · rcases List.mem_append.mp hb with hb | hb
      · exact d.cone p hp b hb
      · rw [List.mem_singleton.mp hb, h0]; exact Int.le_refl _
    · show (i : Int) ∈ p.2 ++ [(A.length : Int)] ↔ _
      rw [List.mem_append, List.mem_singleton]
      rcases at_app hb with hb | ⟨rfl, rfl⟩
      · have hi : i < A.length := (List.getElem?_eq_some_iff.mp hb).1
        rw [← d.tight p hp i b hb]
        exact ⟨fun h => h.elim (fun h => h) fun h => by omega, fun h => .inl h⟩
      · exact ⟨fun _ => h0, fun _ => .inr rfl⟩
    · have ht : t ∈ p.2 ++ [(A.length : Int)] := ht
      rcases List.mem_append.mp ht with ht | ht
      · obtain ⟨i, e, hi⟩ := d.rng p hp t ht
        exact ⟨i, e, by omega⟩
      · exact ⟨A.length, List.mem_singleton.mp ht, hle⟩
theorem one_pair (d : DD n A R) {i j : Nat} {s : Ry} (hi : i < R.length) (hj : j < R.length) (h : s ∈ pairOf a (A.length : Int) R i j) : One n (A ++ [a]) s := by
  have hle : A.length < (A ++ [a]).length := by rw [List.length_append]; show _ < _ + 1; omega
  obtain ⟨h1, h2, _, rfl⟩ := mem_pairOf h
  obtain ⟨_, hp⟩ := rAt_mem (R := R) hi
  obtain ⟨_, hq⟩ := rAt_mem (R := R) hj
  generalize rAt R i = p at h1 hp
  generalize rAt R j = q at h2 hq
  obtain ⟨cp, np⟩ := d.ent hp
  obtain ⟨cq, nq⟩ := d.ent hq
  obtain ⟨w1, w2, w3, w4, w5⟩ := mix_ent (a := a) d.hu cp cq np h1 h2
  have gp : (0 : Int) < (gcdV (mixV (dt a p.1) q.1 (dt a q.1) p.1) : Int) := by have := gcdV_pos w5; omega
  have val : ∀ b, dt b (mixV (dt a p.1) q.1 (dt a q.1) p.1) = 0 ↔ dt b (redV (mixV (dt a p.1) q.1 (dt a q.1) p.1)) = 0 := fun b => by rw [dt_red w5 b]; exact mul_zero_iff' gp
  refine ⟨?_, red_nz w5, fun b hb => ?_, fun k b hb => ?_, fun t ht => ?_, redV_one w5⟩
  · show (redV _).length = n
    rw [redV_len]; exact w1.1
  · have := w1.2 b hb
    rw [dt_red w5 b] at this
    exact (mul_nonneg_iff' gp).mp this
  · show (k : Int) ∈ common p q ++ [(A.length : Int)] ↔ dt b (redV _) = 0
    rw [List.mem_append, List.mem_singleton, mem_common, ← val]
    rcases at_app hb with hb | ⟨rfl, rfl⟩
    · have hk : k < A.length := (List.getElem?_eq_some_iff.mp hb).1
      rw [w3 b (List.mem_of_getElem? hb), d.tight p hp k b hb, d.tight q hq k b hb]
      exact ⟨fun h => h.elim (fun h => h) fun h => by omega, fun h => .inl h⟩
    · exact ⟨fun _ => w2, fun _ => .inr rfl⟩
  · have ht : t ∈ common p q ++ [(A.length : Int)] := ht
    rcases List.mem_append.mp ht with ht | ht
    · obtain ⟨i, e, hi⟩ := d.rng p hp t (mem_common.mp ht).1
      exact ⟨i, e, by omega⟩
    · exact ⟨A.length, List.mem_singleton.mp ht, hle⟩
theorem one_cut (d : DD n A R) {s : Ry} (h : s ∈ cut a (A.length : Int) R) : One n (A ++ [a]) s := by
  rcases mem_cut h with ⟨p, hp, h⟩ | ⟨i, j, hi, hj, h⟩
  · exact one_kept d hp h
  · exact one_pair d hi hj h
theorem sm_lc_comb {M α β : Int} {x y c : List Int} : ∀ (_ : x.length = y.length) (_ : sm M (lc α x (-β) y) = c), sm (M * α) x = lc (M * β) y 1 c := by
  intro h e
  subst e
  induction x generalizing y with
  | nil =>
    cases y with
    | nil => rfl
    | cons b y => simp at h
  | cons u x ih =>
    cases y with
    | nil => simp at h
    | cons v y =>
      have := ih (y := y) (by simpa using h)
      unfold sm lc at this ⊢
      simp only [List.zipWith_cons_cons, List.map_cons, this, List.cons.injEq, and_true]
      rw [Int.mul_add, Int.neg_mul, Int.mul_neg, Int.one_mul, Int.mul_assoc, Int.mul_assoc]; omega
theorem gen_cut (d : DD n A R) : ∀ (m : Nat) (x : List Int), nt (A ++ [a]) x ≤ m → InC n (A ++ [a]) x →
    ∃ (N : Int) (L : List (Int × List Int)), 0 < N ∧ (∀ q ∈ L, 0 < q.1 ∧ ∃ p ∈ cut a (A.length : Int) R, p.1 = q.2) ∧ sm N x = comb n L := by
  have base : ∀ x, InC n (A ++ [a]) x → ¬ Nz A x → ∃ (N : Int) (L : List (Int × List Int)), 0 < N ∧ (∀ q ∈ L, 0 < q.1 ∧ ∃ p ∈ cut a (A.length : Int) R, p.1 = q.2) ∧ sm N x = comb n L := fun x hx hz => by
    refine ⟨1, [], by decide, (fun q h => nomatch h), ?_⟩
    rw [zero_of d.hu hx.1 hz]
    unfold sm comb zeros
    simp
  intro m
  induction m with
  | zero =>
    intro x hm hx
    refine base x hx fun ⟨b, hb, h0⟩ => ?_
    have : b ∈ (A ++ [a]).filter fun b => !decide (dt b x = 0) := List.mem_filter.mpr ⟨List.mem_append_left _ hb, by simpa using h0⟩
    have := List.length_pos_of_mem this
    unfold nt at hm
    omega
  | succ m ih =>
    intro x hm hx
    by_cases hz : Nz A x
    · obtain ⟨s, hs, ht⟩ := ex_tight (a := a) d (A.length : Int) _ x (Nat.le_refl _) hx hz
      have o := one_cut d hs
      have ns : Nz (A ++ [a]) s.1 := by
        obtain ⟨b, hb, h0⟩ := nz_of d.hu o.lr o.nz
        exact ⟨b, List.mem_append_left _ hb, h0⟩
      obtain ⟨α, β, hα, hβ, z1, z2, b, hb, z3, z4⟩ := max_step hx ⟨o.lr, o.cone⟩ ht ns
      have := nt_lt z2 ⟨b, hb, z3, z4⟩
      obtain ⟨N, L, hN, hL, e⟩ := ih _ (by omega) z1
      refine ⟨N * α, (N * β, s.1) :: L, Int.mul_pos hN hα, fun q hq => ?_, ?_⟩
      · rcases List.mem_cons.mp hq with e | hq
        · rw [e]; exact ⟨Int.mul_pos hN hβ, s, hs, rfl⟩
        · exact hL q hq
      · exact sm_lc_comb (by rw [hx.1, o.lr]) e
    · exact base x hx hz

/-! ### no ray's tight ones within another's -/
def AntiL (L : List Ry) : Prop := L.Pairwise fun p q => ¬ sub p q ∧ ¬ sub q p
theorem DD.antiL (d : DD n A R) : AntiL R := by
  unfold AntiL
  rw [List.pairwise_iff_getElem]
  intro i j hi hj hij
  have gi := List.getElem?_eq_getElem hi
  have gj := List.getElem?_eq_getElem hj
  exact ⟨d.anti i j _ _ (by omega) gi gj, d.anti j i _ _ (by omega) gj gi⟩
theorem antiL_at {L : List Ry} (h : AntiL L) : ∀ (i j : Nat) (p q : Ry), i ≠ j → L[i]? = some p → L[j]? = some q → ¬ ∀ t ∈ p.2, t ∈ q.2 := by
  intro i j p q hij hi hj
  obtain ⟨h1, e1⟩ := List.getElem?_eq_some_iff.mp hi
  obtain ⟨h2, e2⟩ := List.getElem?_eq_some_iff.mp hj
  have := List.pairwise_iff_getElem.mp h
  by_cases hlt : i < j
  · have := (this i j h1 h2 hlt).1
    rw [e1, e2] at this; exact this
  · have := (this j i h2 h1 (by omega)).2
    rw [e1, e2] at this; exact this
theorem kept_sub (d : DD n A R) {p q x y : Ry} (hp : p ∈ R) (hx : x ∈ kept a (A.length : Int) p) (hy : y ∈ kept a (A.length : Int) q) (h : sub x y) : sub p q := by
  intro t ht
  have hx2 : t ∈ x.2 := by
    rcases mem_kept hx with ⟨_, rfl⟩ | ⟨_, rfl⟩
    · exact ht
    · exact List.mem_append_left _ ht
  have hne : t ≠ (A.length : Int) := fun z => d.nonum hp (z ▸ ht)
  have hy2 := h t hx2
  rcases mem_kept hy with ⟨_, rfl⟩ | ⟨_, rfl⟩
  · exact hy2
  · rcases List.mem_append.mp hy2 with h | h
    · exact h
    · exact (hne (List.mem_singleton.mp h)).elim
theorem kept_pair (d : DD n A R) {k i j : Nat} {s x w : Ry} (hk : R[k]? = some s) (hi : i < R.length) (hj : j < R.length) (hx : x ∈ kept a (A.length : Int) s) (hw : w ∈ pairOf a (A.length : Int) R i j) : ¬ sub x w ∧ ¬ sub w x := by
  obtain ⟨h1, h2, hadj, rfl⟩ := mem_pairOf hw
  have hs := List.mem_of_getElem? hk
  obtain ⟨gi, hp⟩ := rAt_mem (R := R) hi
  obtain ⟨gj, hq⟩ := rAt_mem (R := R) hj
  have hs0 : 0 ≤ dt a s.1 := by rcases mem_kept hx with ⟨h, _⟩ | ⟨h, _⟩ <;> omega
  constructor
  · intro h
    have hkj : k ≠ j := fun z => by
      subst z
      rw [gj] at hk; cases hk; omega
    refine d.anti k j _ _ hkj hk gj fun t ht => ?_
    have hx2 : t ∈ x.2 := by
      rcases mem_kept hx with ⟨_, rfl⟩ | ⟨_, rfl⟩
      · exact ht
      · exact List.mem_append_left _ ht
    have hw2 : t ∈ common (rAt R i) (rAt R j) ++ [(A.length : Int)] := h t hx2
    rcases List.mem_append.mp hw2 with h | h
    · exact (mem_common.mp h).2
    · exact (d.nonum hs (by rw [← List.mem_singleton.mp h]; exact ht)).elim
  · intro h
    have hn : (A.length : Int) ∈ x.2 := h _ (List.mem_append_right _ (List.mem_singleton.mpr rfl))
    rcases mem_kept hx with ⟨_, rfl⟩ | ⟨hz, rfl⟩
    · exact d.nonum hs hn
    · have hki : k ≠ i := fun z => by
        subst z
        rw [gi] at hk; cases hk; omega
      have hkj : k ≠ j := fun z => by
        subst z
        rw [gj] at hk; cases hk; omega
      refine adj_at hadj (List.getElem?_eq_some_iff.mp hk).1 hki hkj fun t ht => ?_
      rw [rAt_some hk]
      have := h t (List.mem_append_left _ ht)
      rcases List.mem_append.mp this with h | h
      · exact h
      · exact (d.nonum hp (by rw [← List.mem_singleton.mp h]; exact (mem_common.mp ht).1)).elim
theorem pair_pair (d : DD n A R) {i j i' j' : Nat} {w w' : Ry} (hi : i < R.length) (hj : j < R.length) (hi' : i' < R.length) (hj' : j' < R.length) (hw : w ∈ pairOf a (A.length : Int) R i j) (hw' : w' ∈ pairOf a (A.length : Int) R i' j') (hne : ¬ (i = i' ∧ j = j')) : ¬ sub w w' := by
  intro h
  obtain ⟨h1, h2, hadj, rfl⟩ := mem_pairOf hw
  obtain ⟨h1', h2', hadj', rfl⟩ := mem_pairOf hw'
  obtain ⟨gi, hp⟩ := rAt_mem (R := R) hi
  have inc : ∀ t ∈ common (rAt R i) (rAt R j), t ∈ (rAt R i').2 ∧ t ∈ (rAt R j').2 := fun t ht => by
    have : t ∈ common (rAt R i') (rAt R j') ++ [(A.length : Int)] := h t (List.mem_append_left _ ht)
    rcases List.mem_append.mp this with h | h
    · exact mem_common.mp h
    · exact (d.nonum hp (by rw [← List.mem_singleton.mp h]; exact (mem_common.mp ht).1)).elim
  have e1 : i' = i := by
    apply Decidable.byContradiction
    intro z
    have z2 : i' ≠ j := fun q => by rw [q] at h1'; omega
    exact adj_at hadj hi' z z2 fun t ht => (inc t ht).1
  have e2 : j' = j := by
    apply Decidable.byContradiction
    intro z
    have z2 : j' ≠ i := fun q => by rw [q] at h2'; omega
    exact adj_at hadj hj' z2 z fun t ht => (inc t ht).2
  exact hne ⟨e1.symm, e2.symm⟩
theorem pairOf_pw {i j : Nat} : AntiL (pairOf a num R i j) := by
  unfold AntiL pairOf
  split <;> simp
theorem kept_pw {p : Ry} : AntiL (kept a num p) := by
  unfold AntiL kept
  split
  · simp
  · split <;> simp
theorem anti_cut (d : DD n A R) : AntiL (cut a (A.length : Int) R) := by
  unfold AntiL cut
  rw [List.pairwise_append]
  refine ⟨?_, ?_, fun x hx w hw => ?_⟩
  · rw [List.pairwise_flatMap]
    refine ⟨fun p _ => kept_pw, ?_⟩
    have gen : ∀ {l : List Ry}, (∀ p ∈ l, p ∈ R) → l.Pairwise (fun p q => ¬ sub p q ∧ ¬ sub q p) → l.Pairwise fun p q => ∀ x ∈ kept a (A.length : Int) p, ∀ y ∈ kept a (A.length : Int) q, ¬ sub x y ∧ ¬ sub y x := by
      intro l
      induction l with
      | nil => intro _ _; exact .nil
      | cons p l ih =>
        intro hl h
        rw [List.pairwise_cons] at h ⊢
        refine ⟨fun q hq x hx y hy => ?_, ih (fun q hq => hl q (List.mem_cons_of_mem _ hq)) h.2⟩
        obtain ⟨h1, h2⟩ := h.1 q hq
        exact ⟨fun z => h1 (kept_sub d (hl p List.mem_cons_self) hx hy z), fun z => h2 (kept_sub d (hl q (List.mem_cons_of_mem _ hq)) hy hx z)⟩
    exact gen (fun _ h => h) d.antiL
  · unfold pairs
    rw [List.pairwise_flatMap]
    refine ⟨fun i hi => ?_, ?_⟩
    · rw [List.pairwise_flatMap]
      refine ⟨fun j _ => pairOf_pw, ?_⟩
      have : (List.range R.length).Pairwise fun j j' => j < R.length ∧ j' < R.length ∧ j < j' := by
        rw [List.pairwise_iff_getElem]
        intro p q hp hq hpq
        simp only [List.length_range] at hp hq
        simp [List.getElem_range]; omega
      refine this.imp fun {j j'} h x hx y hy => ?_
      have hi := List.mem_range.mp hi
      exact ⟨pair_pair d hi h.1 hi h.2.1 hx hy (by omega), pair_pair d hi h.2.1 hi h.1 hy hx (by omega)⟩
    · have : (List.range R.length).Pairwise fun j j' => j < R.length ∧ j' < R.length ∧ j < j' := by
        rw [List.pairwise_iff_getElem]
        intro p q hp hq hpq
        simp only [List.length_range] at hp hq
        simp [List.getElem_range]; omega
      refine this.imp fun {i i'} h x hx y hy => ?_
      obtain ⟨j, hj, hx⟩ := List.mem_flatMap.mp hx
      obtain ⟨j', hj', hy⟩ := List.mem_flatMap.mp hy
      have hj := List.mem_range.mp hj
      have hj' := List.mem_range.mp hj'
      exact ⟨pair_pair d h.1 hj h.2.1 hj' hx hy (by omega), pair_pair d h.2.1 hj' h.1 hj hy hx (by omega)⟩
  · obtain ⟨s, hs, hx⟩ := List.mem_flatMap.mp hx
    obtain ⟨k, hk, ek⟩ := List.mem_iff_getElem.mp hs
    unfold pairs at hw
    obtain ⟨i, hi, hw⟩ := List.mem_flatMap.mp hw
    obtain ⟨j, hj, hw⟩ := List.mem_flatMap.mp hw
    exact kept_pair d (by rw [List.getElem?_eq_getElem hk, ek]) (List.mem_range.mp hi) (List.mem_range.mp hj) hx hw
/-- THE CUT -/
theorem dd_cut (d : DD n A R) (a : List Int) : DD n (A ++ [a]) (cut a (A.length : Int) R) :=
  ⟨fun i hi => List.mem_append_left _ (d.hu i hi), fun s hs => (one_cut d hs).lr, fun s hs => (one_cut d hs).nz, fun s hs => (one_cut d hs).cone, fun s hs => (one_cut d hs).tight, fun s hs => (one_cut d hs).rng,
    fun x hx => gen_cut d _ x (Nat.le_refl _) hx, antiL_at (anti_cut d), fun s hs => (one_cut d hs).red⟩
end
end Rf.Dd
/-! Mi: the first rays; how large rays are; how many. -/
namespace Rf.Dd
section
variable {n : Nat} {A : List (List Int)} {R : List Ry}
theorem gen_of {S : List Ry} (hu : ∀ i, i < n → unitV n i ∈ A) (E : ∀ x, InC n A x → Nz A x → ∃ s ∈ S, Tle A x s.1 ∧ InC n A s.1 ∧ Nz A s.1) : ∀ (m : Nat) (x : List Int), nt A x ≤ m → InC n A x →
    ∃ (N : Int) (L : List (Int × List Int)), 0 < N ∧ (∀ q ∈ L, 0 < q.1 ∧ ∃ p ∈ S, p.1 = q.2) ∧ sm N x = comb n L := by
  have base : ∀ x, InC n A x → ¬ Nz A x → ∃ (N : Int) (L : List (Int × List Int)), 0 < N ∧ (∀ q ∈ L, 0 < q.1 ∧ ∃ p ∈ S, p.1 = q.2) ∧ sm N x = comb n L := fun x hx hz => by
    refine ⟨1, [], by decide, (fun q h => nomatch h), ?_⟩
    rw [zero_of hu hx.1 hz]
    unfold sm comb zeros
    simp
  intro m
  induction m with
  | zero =>
    intro x hm hx
    refine base x hx fun ⟨b, hb, h0⟩ => ?_
    have : b ∈ A.filter fun b => !decide (dt b x = 0) := List.mem_filter.mpr ⟨hb, by simpa using h0⟩
    have := List.length_pos_of_mem this
    unfold nt at hm
    omega
  | succ m ih =>
    intro x hm hx
    by_cases hz : Nz A x
    · obtain ⟨s, hs, ht, hc, ns⟩ := E x hx hz
      obtain ⟨α, β, hα, hβ, z1, z2, b, hb, z3, z4⟩ := max_step hx hc ht ns
      have := nt_lt z2 ⟨b, hb, z3, z4⟩
      obtain ⟨N, L, hN, hL, e⟩ := ih _ (by omega) z1
      refine ⟨N * α, (N * β, s.1) :: L, Int.mul_pos hN hα, fun q hq => ?_, ?_⟩
      · rcases List.mem_cons.mp hq with e | hq
        · rw [e]; exact ⟨Int.mul_pos hN hβ, s, hs, rfl⟩
        · exact hL q hq
      · exact sm_lc_comb (by rw [hx.1, hc.1]) e
    · exact base x hx hz
end
def unitsA (n : Nat) : List (List Int) := (List.range n).map (unitV n)
def firstT (n p : Nat) : List Int := ((List.range n).filter fun k => !decide (k = p)).map Int.ofNat
def firstR (n : Nat) : List Ry := (List.range n).map fun p => (unitV n p, firstT n p)
theorem unit_len (n i : Nat) : (unitV n i).length = n := by unfold unitV; simp
theorem unit_at (n i j : Nat) (hj : j < n) : (unitV n i).getD j 0 = if j = i then 1 else 0 := by
  unfold unitV
  rw [List.getD_eq_getElem?_getD, List.getElem?_map, List.getElem?_range hj]; rfl
theorem dt_uu (n i j : Nat) (hi : i < n) : dt (unitV n i) (unitV n j) = if i = j then 1 else 0 := by
  rw [dt_unit n i _ hi (unit_len n j), unit_at n j i hi]
theorem units_get (n i : Nat) (b : List Int) (h : (unitsA n)[i]? = some b) : i < n ∧ b = unitV n i := by
  unfold unitsA at h
  have hi : i < n := by
    have := (List.getElem?_eq_some_iff.mp h).1
    simpa using this
  rw [List.getElem?_map, List.getElem?_range hi] at h
  exact ⟨hi, (Option.some.inj h).symm⟩
theorem gcd_one_of {l : List Int} (h : (1 : Int) ∈ l) : gcdV l = 1 := by
  have := gcdV_dvd l 1 h
  have h2 : gcdV l ∣ 1 := by
    have := Int.ofNat_dvd_left.mp this
    simpa using this
  exact Nat.dvd_one.mp h2
theorem dd_first (n : Nat) : DD n (unitsA n) (firstR n) := by
  have mem : ∀ {p}, p ∈ firstR n → ∃ i, i < n ∧ p = (unitV n i, firstT n i) := fun {p} hp => by
    unfold firstR at hp
    obtain ⟨i, hi, e⟩ := List.mem_map.mp hp
    exact ⟨i, List.mem_range.mp hi, e.symm⟩
  have hu : ∀ i, i < n → unitV n i ∈ unitsA n := fun i hi => List.mem_map.mpr ⟨i, List.mem_range.mpr hi, rfl⟩
  have memA : ∀ {b}, b ∈ unitsA n → ∃ i, i < n ∧ b = unitV n i := fun {b} hb => by
    unfold unitsA at hb
    obtain ⟨i, hi, e⟩ := List.mem_map.mp hb
    exact ⟨i, List.mem_range.mp hi, e.symm⟩
  have one : ∀ i, i < n → (1 : Int) ∈ unitV n i := fun i hi => by
    unfold unitV
    exact List.mem_map.mpr ⟨i, List.mem_range.mpr hi, by simp⟩
  have inT : ∀ i t : Nat, (t : Int) ∈ firstT n i ↔ t < n ∧ t ≠ i := fun i t => by
    unfold firstT
    rw [List.mem_map]
    constructor
    · rintro ⟨k, hk, e⟩
      obtain ⟨h1, h2⟩ := List.mem_filter.mp hk
      have : k = t := by
        have e : (k : Int) = t := e
        omega
      subst this
      exact ⟨List.mem_range.mp h1, by simpa using h2⟩
    · rintro ⟨h1, h2⟩
      exact ⟨t, List.mem_filter.mpr ⟨List.mem_range.mpr h1, by simpa using h2⟩, rfl⟩
  have inc : ∀ i, i < n → InC n (unitsA n) (unitV n i) := fun i hi => ⟨unit_len n i, fun b hb => by
    obtain ⟨j, hj, rfl⟩ := memA hb
    rw [dt_uu n j i hj]; split <;> omega⟩
  refine ⟨hu, fun p hp => ?_, fun p hp => ?_, fun p hp => ?_, fun p hp k b hb => ?_, fun p hp t ht => ?_, fun x hx => gen_of hu (fun x hx hz => ?_) _ x (Nat.le_refl _) hx, fun i j p q hij hi hj h => ?_, fun p hp => ?_⟩
  · obtain ⟨i, hi, rfl⟩ := mem hp; exact unit_len n i
  · obtain ⟨i, hi, rfl⟩ := mem hp; exact ⟨1, one i hi, by decide⟩
  · obtain ⟨i, hi, rfl⟩ := mem hp; exact (inc i hi).2
  · obtain ⟨i, hi, rfl⟩ := mem hp
    obtain ⟨hk, rfl⟩ := units_get n k b hb
    show (k : Int) ∈ firstT n i ↔ dt (unitV n k) (unitV n i) = 0
    rw [inT, dt_uu n k i hk]
    by_cases q : k = i <;> simp [q, hk] <;> omega
  · obtain ⟨i, hi, rfl⟩ := mem hp
    have ht : t ∈ firstT n i := ht
    unfold firstT at ht
    obtain ⟨k, hk, rfl⟩ := List.mem_map.mp ht
    obtain ⟨h1, _⟩ := List.mem_filter.mp hk
    exact ⟨k, rfl, by unfold unitsA; simpa using h1⟩
  · obtain ⟨b, hb, h0⟩ := hz
    obtain ⟨i, hi, rfl⟩ := memA hb
    refine ⟨(unitV n i, firstT n i), List.mem_map.mpr ⟨i, List.mem_range.mpr hi, rfl⟩, fun b hb hz => ?_, inc i hi, ⟨unitV n i, hu i hi, by rw [dt_uu n i i hi]; simp⟩⟩
    obtain ⟨j, hj, rfl⟩ := memA hb
    show dt (unitV n j) (unitV n i) = 0
    rw [dt_uu n j i hj]
    by_cases q : j = i
    · rw [q] at hz; exact (h0 hz).elim
    · rw [if_neg q]
  · unfold firstR at hi hj
    have li : i < n := by
      have := (List.getElem?_eq_some_iff.mp hi).1
      simpa using this
    have lj : j < n := by
      have := (List.getElem?_eq_some_iff.mp hj).1
      simpa using this
    rw [List.getElem?_map, List.getElem?_range li] at hi
    rw [List.getElem?_map, List.getElem?_range lj] at hj
    cases hi; cases hj
    have : (j : Int) ∈ firstT n i := (inT i j).mpr ⟨lj, fun z => hij z.symm⟩
    have := h _ this
    exact ((inT j j).mp this).2 rfl
  · obtain ⟨i, hi, rfl⟩ := mem hp; exact gcd_one_of (one i hi)
/-- all the inequalities, one after the other -/
def raysFrom (n : Nat) : Nat → List (List Int) → List Ry → List Ry
  | _, [], R => R
  | t, a :: l, R => raysFrom n (t + 1) l (cut a ((n + t : Nat) : Int) R)
def raysF (n : Nat) (l : List (List Int)) : List Ry := raysFrom n 0 l (firstR n)
theorem dd_from (n : Nat) : ∀ (l done : List (List Int)) (R : List Ry), DD n (unitsA n ++ done) R → DD n (unitsA n ++ (done ++ l)) (raysFrom n done.length l R)
  | [], done, R, d => by rw [List.append_nil]; exact d
  | a :: l, done, R, d => by
    have h := dd_cut d a
    have e : ((unitsA n ++ done).length : Int) = ((n + done.length : Nat) : Int) := by
      rw [List.length_append]
      have : (unitsA n).length = n := by unfold unitsA; simp
      rw [this]
    rw [e, List.append_assoc] at h
    have ih := dd_from n l (done ++ [a]) _ h
    rw [List.append_assoc] at ih
    have e2 : (done ++ [a]).length = done.length + 1 := by simp
    rw [e2] at ih
    exact ih
theorem dd_all (n : Nat) (l : List (List Int)) : DD n (unitsA n ++ l) (raysF n l) := by
  have := dd_from n l [] (firstR n) (by rw [List.append_nil]; exact dd_first n)
  exact this

/-! ### how large -/
theorem dt_cons (a : Int) (as : List Int) (x : Int) (xs : List Int) : dt (a :: as) (x :: xs) = a * x + dt as xs := by unfold dt; rw [List.zipWith_cons_cons, List.sum_cons]
theorem dt_bound : ∀ {K B : Nat} (s z : List Int), (∀ v ∈ s, v.natAbs ≤ K) → (∀ v ∈ z, v.natAbs ≤ B) → (dt s z).natAbs ≤ s.length * (K * B)
  | K, B, [], z, _, _ => by simp [dt]
  | K, B, a :: s, [], _, _ => by simp [dt]
  | K, B, a :: s, x :: z, h1, h2 => by
    rw [dt_cons]
    have ih := dt_bound s z (fun v hv => h1 v (List.mem_cons_of_mem _ hv)) fun v hv => h2 v (List.mem_cons_of_mem _ hv)
    have h3 : (a * x).natAbs ≤ K * B := by
      rw [Int.natAbs_mul]
      exact Nat.mul_le_mul (h1 a List.mem_cons_self) (h2 x List.mem_cons_self)
    have h4 : (a * x + dt s z).natAbs ≤ (a * x).natAbs + (dt s z).natAbs := Int.natAbs_add_le _ _
    rw [List.length_cons, Nat.succ_mul]
    omega
def BB : Nat → Nat → Nat
  | 0, _ => 1
  | n + 1, K => (n + 1) * ((K + 1) * BB n (2 * ((K + 1) * (K + 1))))
theorem BB_pos : ∀ n K, 1 ≤ BB n K
  | 0, _ => Nat.le_refl _
  | n + 1, K => by
    unfold BB
    exact Nat.mul_pos (by omega) (Nat.mul_pos (by omega) (BB_pos n _))
/-- s taken out of t -/
def elim (s t : List Int) : List Int := List.zipWith (fun u v => s.headD 0 * v - t.headD 0 * u) s.tail t.tail
theorem elim_dt : ∀ (c d : Int) (s t z : List Int), s.length = t.length → dt (List.zipWith (fun u v => c * v - d * u) s t) z = c * dt t z - d * dt s z
  | c, d, [], [], z, _ => by simp [dt]
  | c, d, [], _ :: _, z, h => by simp at h
  | c, d, _ :: _, [], z, h => by simp at h
  | c, d, u :: s, v :: t, [], h => by simp [dt]
  | c, d, u :: s, v :: t, w :: z, h => by
    rw [List.zipWith_cons_cons, dt_cons, dt_cons, dt_cons, elim_dt c d s t z (by simpa using h)]
    rw [Int.sub_mul, Int.mul_add, Int.mul_add, Int.mul_assoc, Int.mul_assoc]; omega
/-- a family with a kernel has a small vector in it -/
theorem small_ker : ∀ (n K : Nat) (S : List (List Int)), (∀ s ∈ S, s.length = n ∧ ∀ v ∈ s, v.natAbs ≤ K) → (∃ r : List Int, r.length = n ∧ (∃ v ∈ r, v ≠ 0) ∧ ∀ s ∈ S, dt s r = 0) →
    ∃ z : List Int, z.length = n ∧ (∃ v ∈ z, v ≠ 0) ∧ (∀ s ∈ S, dt s z = 0) ∧ ∀ v ∈ z, v.natAbs ≤ BB n K
  | 0, K, S, hS, ⟨r, hr, ⟨v, hv, _⟩, _⟩ => by
    have : r = [] := List.eq_nil_of_length_eq_zero hr
    rw [this] at hv; cases hv
  | n + 1, K, S, hS, ⟨r, hr, hv, hk⟩ => by
    by_cases hh : ∃ s ∈ S, s.headD 0 ≠ 0
    · obtain ⟨s, hs, h0⟩ := hh
      obtain ⟨c, s', rfl⟩ : ∃ c s', s = c :: s' := by
        cases s with
        | nil => have := (hS [] hs).1; simp at this
        | cons c s' => exact ⟨c, s', rfl⟩
      have h0 : c ≠ 0 := h0
      have ls : s'.length = n := by have := (hS _ hs).1; simpa using this
      have bs : ∀ v ∈ s', v.natAbs ≤ K := fun v hv => (hS _ hs).2 v (List.mem_cons_of_mem _ hv)
      have bc : c.natAbs ≤ K := (hS _ hs).2 c List.mem_cons_self
      obtain ⟨r0, r', rfl⟩ : ∃ r0 r', r = r0 :: r' := by
        cases r with
        | nil => simp at hr
        | cons a b => exact ⟨a, b, rfl⟩
      have lr : r'.length = n := by simpa using hr
      have ks : c * r0 + dt s' r' = 0 := by rw [← dt_cons]; exact hk _ hs
      have shape : ∀ t ∈ S, ∃ d t', t = d :: t' ∧ t'.length = n ∧ d.natAbs ≤ K ∧ ∀ v ∈ t', v.natAbs ≤ K := fun t ht => by
        obtain ⟨h1, h2⟩ := hS t ht
        cases t with
        | nil => simp at h1
        | cons d t' => exact ⟨d, t', rfl, by simpa using h1, h2 d List.mem_cons_self, fun v hv => h2 v (List.mem_cons_of_mem _ hv)⟩
      have el : ∀ d t', elim (c :: s') (d :: t') = List.zipWith (fun u v => c * v - d * u) s' t' := fun _ _ => rfl
      obtain ⟨z', lz, nz, kz, bz⟩ := small_ker n (2 * ((K + 1) * (K + 1))) (S.map (elim (c :: s'))) (fun e he => by
        obtain ⟨t, ht, rfl⟩ := List.mem_map.mp he
        obtain ⟨d, t', rfl, lt, bd, bt⟩ := shape t ht
        rw [el]
        refine ⟨by rw [List.length_zipWith, ls, lt, Nat.min_self], fun v hv => ?_⟩
        obtain ⟨k, hk, e⟩ := List.mem_iff_getElem.mp hv
        rw [List.getElem_zipWith] at e
        have k1 : k < s'.length := by rw [List.length_zipWith] at hk; omega
        have k2 : k < t'.length := by rw [List.length_zipWith] at hk; omega
        have q1 := bs _ (List.getElem_mem k1)
        have q2 := bt _ (List.getElem_mem k2)
        rw [← e]
        have e1 : (c * t'[k]).natAbs ≤ K * K := by rw [Int.natAbs_mul]; exact Nat.mul_le_mul bc q2
        have e2 : (d * s'[k]).natAbs ≤ K * K := by rw [Int.natAbs_mul]; exact Nat.mul_le_mul bd q1
        have e3 : (c * t'[k] - d * s'[k]).natAbs ≤ (c * t'[k]).natAbs + (d * s'[k]).natAbs := by omega
        have e4 : K * K ≤ (K + 1) * (K + 1) := Nat.mul_le_mul (by omega) (by omega)
        omega) ⟨r', lr, by
          obtain ⟨v, hv, v0⟩ := hv
          apply Decidable.byContradiction
          intro hno
          have all0 : ∀ w ∈ r', w = 0 := fun w hw => Decidable.byContradiction fun z => hno ⟨w, hw, z⟩
          have : dt s' r' = 0 := by
            have : r' = zeros n := by
              apply List.ext_getElem
              · rw [lr]; simp [zeros]
              · intro i h1 h2
                rw [all0 _ (List.getElem_mem h1)]; simp [zeros]
            rw [this, dt_zeros]
          rw [this, Int.add_zero] at ks
          have r00 : r0 = 0 := by
            rcases Int.mul_eq_zero.mp ks with h | h
            · exact (h0 h).elim
            · exact h
          rcases List.mem_cons.mp hv with e | hv
          · rw [e] at v0; exact v0 r00
          · exact v0 (all0 v hv), fun e he => by
          obtain ⟨t, ht, rfl⟩ := List.mem_map.mp he
          obtain ⟨d, t', rfl, lt, _, _⟩ := shape t ht
          rw [el, elim_dt c d s' t' r' (by rw [ls, lt])]
          have kt : d * r0 + dt t' r' = 0 := by rw [← dt_cons]; exact hk _ ht
          have e1 : dt t' r' = -(d * r0) := by omega
          have e2 : dt s' r' = -(c * r0) := by omega
          rw [e1, e2, Int.mul_neg, Int.mul_neg, ← Int.mul_assoc, ← Int.mul_assoc, Int.mul_comm d c]; omega⟩
      have zb := BB_pos n (2 * ((K + 1) * (K + 1)))
      refine ⟨-(dt s' z') :: sm c z', by rw [List.length_cons, sm_len, lz], ?_, fun t ht => ?_, fun v hv => ?_⟩
      · obtain ⟨v, hv, v0⟩ := nz
        refine ⟨c * v, List.mem_cons_of_mem _ (List.mem_map.mpr ⟨v, hv, rfl⟩), fun z => ?_⟩
        rcases Int.mul_eq_zero.mp z with h | h
        · exact h0 h
        · exact v0 h
      · obtain ⟨d, t', rfl, lt, _, _⟩ := shape t ht
        have := kz _ (List.mem_map.mpr ⟨_, ht, rfl⟩)
        rw [el, elim_dt c d s' t' z' (by rw [ls, lt])] at this
        rw [dt_cons, dt_sm, Int.mul_neg]; omega
      · have hB : (n + 1) * ((K + 1) * BB n (2 * ((K + 1) * (K + 1)))) = BB (n + 1) K := rfl
        have hmono : (K + 1) * BB n (2 * ((K + 1) * (K + 1))) ≤ (n + 1) * ((K + 1) * BB n (2 * ((K + 1) * (K + 1)))) := Nat.le_mul_of_pos_left _ (by omega)
        rcases List.mem_cons.mp hv with e | hv
        · rw [e, Int.natAbs_neg]
          have h1 := dt_bound s' z' bs bz
          rw [ls] at h1
          have h2 : n * (K * BB n (2 * ((K + 1) * (K + 1)))) ≤ (n + 1) * ((K + 1) * BB n (2 * ((K + 1) * (K + 1)))) := Nat.mul_le_mul (by omega) (Nat.mul_le_mul (by omega) (Nat.le_refl _))
          omega
        · unfold sm at hv
          obtain ⟨w, hw, rfl⟩ := List.mem_map.mp hv
          rw [Int.natAbs_mul]
          have h1 : c.natAbs * w.natAbs ≤ (K + 1) * BB n (2 * ((K + 1) * (K + 1))) := Nat.mul_le_mul (by omega) (bz w hw)
          omega
    · refine ⟨1 :: zeros n, by simp [zeros], ⟨1, List.mem_cons_self, by decide⟩, fun t ht => ?_, fun v hv => ?_⟩
      · have h1 : t.headD 0 = 0 := Decidable.byContradiction fun z => hh ⟨t, ht, z⟩
        cases t with
        | nil => simp [dt]
        | cons d t' =>
          have h1 : d = 0 := h1
          rw [dt_cons, dt_zeros, h1]; simp
      · have := BB_pos (n + 1) K
        rcases List.mem_cons.mp hv with e | hv
        · rw [e]; exact this
        · rw [List.eq_of_mem_replicate hv]; exact Nat.zero_le _
end Rf.Dd
/-! Mj: bounds on the rays' entries and on their number. -/
namespace Rf.Dd
theorem gcd_scale (D : Int) : ∀ (l : List Int) (g : Nat), (sm D l).foldl (fun g v => Nat.gcd g v.natAbs) (D.natAbs * g) = D.natAbs * l.foldl (fun g v => Nat.gcd g v.natAbs) g
  | [], g => rfl
  | a :: l, g => by
    have e : sm D (a :: l) = D * a :: sm D l := rfl
    rw [e, List.foldl_cons, List.foldl_cons, Int.natAbs_mul, Nat.gcd_mul_left, gcd_scale D l]
theorem gcdV_sm (D : Int) (l : List Int) : gcdV (sm D l) = D.natAbs * gcdV l := by
  have := gcd_scale D l 0
  rw [Nat.mul_zero] at this
  exact this
section
variable {n : Nat} {A : List (List Int)} {R : List Ry}
theorem comb_same {p : List Int} (hp : p.length = n) : ∀ {L : List (Int × List Int)}, (∀ q ∈ L, q.2 = p) → comb n L = sm (L.map (·.1)).sum p
  | [], _ => by
    unfold comb sm zeros
    subst hp
    simp
    apply List.ext_getElem
    · simp
    · intro i h1 h2; simp
  | q :: L, h => by
    unfold comb
    rw [comb_same hp fun r hr => h r (List.mem_cons_of_mem _ hr), h q List.mem_cons_self, List.map_cons, List.sum_cons]
    unfold lc sm
    apply List.ext_getElem
    · simp
    · intro i h1 h2
      simp [Int.add_mul]
theorem same_ray (d : DD n A R) {p s : Ry} (hp : p ∈ R) (hs : s ∈ R) (h : Tle A p.1 s.1) : s = p := by
  apply Decidable.byContradiction
  intro hne
  obtain ⟨i, hi, ei⟩ := List.mem_iff_getElem.mp hp
  obtain ⟨j, hj, ej⟩ := List.mem_iff_getElem.mp hs
  have hij : i ≠ j := fun z => by subst z; exact hne (ej.symm.trans ei)
  exact d.anti i j p s hij (by rw [List.getElem?_eq_getElem hi, ei]) (by rw [List.getElem?_eq_getElem hj, ej]) ((d.le hp hs).mpr h)
def absSum (A : List (List Int)) (z : List Int) : Int := (A.map fun b => ((dt b z).natAbs : Int)).sum
theorem abs_nn : ∀ (A : List (List Int)) (z : List Int), 0 ≤ absSum A z
  | [], _ => Int.le_refl _
  | a :: A, z => by
    have := abs_nn A z
    unfold absSum at this ⊢
    rw [List.map_cons, List.sum_cons]; omega
theorem abs_le : ∀ {A : List (List Int)} {z b : List Int}, b ∈ A → ((dt b z).natAbs : Int) ≤ absSum A z
  | a :: A, z, b, h => by
    have nn := abs_nn A z
    unfold absSum at nn ⊢
    rw [List.map_cons, List.sum_cons]
    rcases List.mem_cons.mp h with e | h
    · rw [e]; omega
    · have := abs_le (z := z) h
      unfold absSum at this
      omega
theorem ray_small (d : DD n A R) {K : Nat} (hK : ∀ b ∈ A, b.length = n ∧ ∀ v ∈ b, v.natAbs ≤ K) : ∀ p ∈ R, ∀ v ∈ p.1, v.natAbs ≤ BB n K := by
  intro p hp
  obtain ⟨z, lz, nz, kz, bz⟩ := small_ker n K (A.filter fun b => decide (dt b p.1 = 0)) (fun s hs => hK s (List.mem_filter.mp hs).1) ⟨p.1, d.lr p hp, d.nz p hp, fun s hs => by simpa using (List.mem_filter.mp hs).2⟩
  have kz' : ∀ b ∈ A, dt b p.1 = 0 → dt b z = 0 := fun b hb h0 => kz b (List.mem_filter.mpr ⟨hb, by simpa using h0⟩)
  have lp := d.lr p hp
  have len : p.1.length = z.length := by rw [lp, lz]
  have val : ∀ b, dt b (lc (1 + absSum A z) p.1 1 z) = (1 + absSum A z) * dt b p.1 + dt b z := fun b => by rw [dt_lc _ _ _ _ _ len, Int.one_mul]
  have nn := abs_nn A z
  have iny : InC n A (lc (1 + absSum A z) p.1 1 z) := ⟨by rw [lc_len len, lp], fun b hb => by
    rw [val]
    have h1 := d.cone p hp b hb
    by_cases h0 : dt b p.1 = 0
    · rw [h0, kz' b hb h0]; simp
    · have h2 := abs_le (z := z) hb
      have h3 : (1 + absSum A z) * 1 ≤ (1 + absSum A z) * dt b p.1 := Int.mul_le_mul_of_nonneg_left (by omega) (by omega)
      omega⟩
  obtain ⟨N, L, hN, hL, e⟩ := d.gen _ iny
  have hLl : ∀ q ∈ L, q.2.length = n := fun q hq => by
    obtain ⟨_, s, hs, es⟩ := hL q hq
    rw [← es]; exact d.lr s hs
  have allp : ∀ q ∈ L, q.2 = p.1 := fun q hq => by
    obtain ⟨hq0, s, hs, es⟩ := hL q hq
    have tle : Tle A p.1 s.1 := fun b hb h0 => by
      have h1 : dt b (lc (1 + absSum A z) p.1 1 z) = 0 := by rw [val, h0, kz' b hb h0]; simp
      have h2 : (L.map fun q => q.1 * dt b q.2).sum ≤ 0 := by
        rw [← dt_comb b hLl, ← e, dt_sm, h1]; simp
      have h3 := sum_zero (fun r hr => by
        obtain ⟨hr0, t, ht, et⟩ := hL r hr
        rw [← et]
        exact Int.mul_nonneg (Int.le_of_lt hr0) (d.cone t ht b hb)) h2 q hq
      rw [es]
      exact (mul_zero_iff' hq0).mp h3
    rw [← es, same_ray d hp hs tle]
  rw [comb_same lp allp] at e
  generalize (L.map (·.1)).sum = C at e
  -- N z = E p
  have ez : sm N z = sm (C - N * (1 + absSum A z)) p.1 := by
    apply List.ext_getElem
    · rw [sm_len, sm_len, lz, lp]
    · intro i h1 h2
      rw [sm_len] at h1 h2
      have q : (sm N (lc (1 + absSum A z) p.1 1 z))[i]? = (sm C p.1)[i]? := by rw [e]
      unfold sm lc at q
      rw [List.getElem?_map, List.getElem?_map, List.getElem?_eq_getElem h2, List.getElem?_zipWith, List.getElem?_eq_getElem h2, List.getElem?_eq_getElem h1] at q
      have q : N * ((1 + absSum A z) * p.1[i] + 1 * z[i]) = C * p.1[i] := Option.some.inj q
      have g1 : ∀ (M : Int) (l : List Int) (h : i < (sm M l).length) (h' : i < l.length), (sm M l)[i] = M * l[i] := fun M l h h' => by simp [sm]
      rw [g1 _ _ _ h1, g1 _ _ _ h2]
      rw [Int.mul_add, ← Int.mul_assoc, Int.one_mul] at q
      rw [Int.sub_mul]; omega
  generalize C - N * (1 + absSum A z) = E at ez
  have hdvd : N.natAbs ∣ E.natAbs := by
    have h1 : N.natAbs ∣ gcdV (sm E p.1) := gcdV_great fun v hv => by
      rw [← ez] at hv
      unfold sm at hv
      obtain ⟨u, hu, rfl⟩ := List.mem_map.mp hv
      exact Int.dvd_trans (Int.natAbs_dvd.mpr (Int.dvd_refl N)) (Int.dvd_mul_right N u)
    rw [gcdV_sm, d.red p hp, Nat.mul_one] at h1
    exact h1
  have hE : E ≠ 0 := fun h => by
    rw [h] at ez
    obtain ⟨v, hv, v0⟩ := nz
    have : N * v ∈ sm N z := List.mem_map.mpr ⟨v, hv, rfl⟩
    rw [ez] at this
    unfold sm at this
    obtain ⟨u, hu, e0⟩ := List.mem_map.mp this
    rw [Int.zero_mul] at e0
    exact v0 ((mul_zero_iff' hN).mp e0.symm)
  have hge : N.natAbs ≤ E.natAbs := Nat.le_of_dvd (by omega) hdvd
  intro v hv
  obtain ⟨i, hi, ei⟩ := List.mem_iff_getElem.mp hv
  have hiz : i < z.length := by omega
  have q : (sm N z)[i]? = (sm E p.1)[i]? := by rw [ez]
  unfold sm at q
  rw [List.getElem?_map, List.getElem?_map, List.getElem?_eq_getElem hi, List.getElem?_eq_getElem hiz] at q
  have q : N * z[i] = E * p.1[i] := Option.some.inj q
  rw [ei] at q
  have q2 := congrArg Int.natAbs q
  rw [Int.natAbs_mul, Int.natAbs_mul] at q2
  have b1 := bz _ (List.getElem_mem hiz)
  have q3 : N.natAbs * v.natAbs ≤ E.natAbs * v.natAbs := Nat.mul_le_mul_right _ hge
  rw [← q2] at q3
  have := Nat.le_of_mul_le_mul_left q3 (by omega : 0 < N.natAbs)
  omega

/-! ### how many -/
theorem base_ker {α : Type} : ∀ (n : Nat) (S : List α) (f : α → List Int), (∀ s ∈ S, (f s).length = n) →
    ∃ S0 : List α, (∀ s ∈ S0, s ∈ S) ∧ S0.length ≤ n ∧ ((∃ r : List Int, r.length = n ∧ (∃ v ∈ r, v ≠ 0) ∧ ∀ s ∈ S, dt (f s) r = 0) → S0.length + 1 ≤ n) ∧ ∀ z : List Int, z.length = n → (∀ s ∈ S0, dt (f s) z = 0) → ∀ s ∈ S, dt (f s) z = 0
  | 0, S, f, hf => by
    refine ⟨[], (fun s h => nomatch h), Nat.le_refl _, fun h => ?_, fun z hz _ s hs => ?_⟩
    · obtain ⟨r, hr, ⟨v, hv, _⟩, _⟩ := h
      have : r = [] := List.eq_nil_of_length_eq_zero hr
      rw [this] at hv; cases hv
    · have : f s = [] := List.eq_nil_of_length_eq_zero (hf s hs)
      rw [this]; simp [dt]
  | n + 1, S, f, hf => by
    have cons : ∀ {r : List Int}, r.length = n + 1 → ∃ a b, r = a :: b ∧ b.length = n := fun {r} h => by
      cases r with
      | nil => simp at h
      | cons a b => exact ⟨a, b, rfl, by simpa using h⟩
    by_cases hh : ∃ s ∈ S, (f s).headD 0 ≠ 0
    · obtain ⟨s, hs, h0⟩ := hh
      obtain ⟨c, s', es, ls⟩ := cons (hf s hs)
      rw [es] at h0
      have h0 : c ≠ 0 := h0
      have el : ∀ t ∈ S, ∃ d t', f t = d :: t' ∧ t'.length = n ∧ elim (f s) (f t) = List.zipWith (fun u v => c * v - d * u) s' t' := fun t ht => by
        obtain ⟨d, t', et, lt⟩ := cons (hf t ht)
        exact ⟨d, t', et, lt, by rw [es, et]; rfl⟩
      obtain ⟨S0, h1, h2, h3, h4⟩ := base_ker n S (fun t => elim (f s) (f t)) fun t ht => by
        obtain ⟨d, t', _, lt, e⟩ := el t ht
        rw [e, List.length_zipWith, ls, lt, Nat.min_self]
      refine ⟨s :: S0, fun t ht => ?_, by rw [List.length_cons]; omega, fun ⟨r, hr, hv, hk⟩ => ?_, fun z hz hk t ht => ?_⟩
      · rcases List.mem_cons.mp ht with e | ht
        · rw [e]; exact hs
        · exact h1 t ht
      · obtain ⟨r0, r', rfl, lr⟩ := cons hr
        have ks : c * r0 + dt s' r' = 0 := by rw [← dt_cons, ← es]; exact hk s hs
        have := h3 ⟨r', lr, by
          obtain ⟨v, hv, v0⟩ := hv
          apply Decidable.byContradiction
          intro hno
          have all0 : ∀ w ∈ r', w = 0 := fun w hw => Decidable.byContradiction fun z => hno ⟨w, hw, z⟩
          have : dt s' r' = 0 := by
            have : r' = zeros n := by
              apply List.ext_getElem
              · rw [lr]; simp [zeros]
              · intro i h1 h2
                rw [all0 _ (List.getElem_mem h1)]; simp [zeros]
            rw [this, dt_zeros]
          rw [this, Int.add_zero] at ks
          have r00 : r0 = 0 := by
            rcases Int.mul_eq_zero.mp ks with h | h
            · exact (h0 h).elim
            · exact h
          rcases List.mem_cons.mp hv with e | hv
          · rw [e] at v0; exact v0 r00
          · exact v0 (all0 v hv), fun t ht => by
          obtain ⟨d, t', et, lt, e⟩ := el t ht
          rw [e, elim_dt c d s' t' r' (by rw [ls, lt])]
          have kt : d * r0 + dt t' r' = 0 := by rw [← dt_cons, ← et]; exact hk t ht
          have e1 : dt t' r' = -(d * r0) := by omega
          have e2 : dt s' r' = -(c * r0) := by omega
          rw [e1, e2, Int.mul_neg, Int.mul_neg, ← Int.mul_assoc, ← Int.mul_assoc, Int.mul_comm d c]; omega⟩
        rw [List.length_cons]; omega
      · obtain ⟨z0, z', rfl, lz⟩ := cons hz
        have ks : c * z0 + dt s' z' = 0 := by rw [← dt_cons, ← es]; exact hk s List.mem_cons_self
        have e2 : dt s' z' = -(c * z0) := by omega
        have key := h4 z' lz (fun u hu => by
          obtain ⟨d, t', et, lt, e⟩ := el u (h1 u hu)
          rw [e, elim_dt c d s' t' z' (by rw [ls, lt])]
          have kt : d * z0 + dt t' z' = 0 := by rw [← dt_cons, ← et]; exact hk u (List.mem_cons_of_mem _ hu)
          have e1 : dt t' z' = -(d * z0) := by omega
          rw [e1, e2, Int.mul_neg, Int.mul_neg, ← Int.mul_assoc, ← Int.mul_assoc, Int.mul_comm d c]; omega) t ht
        obtain ⟨d, t', et, lt, e⟩ := el t ht
        rw [e, elim_dt c d s' t' z' (by rw [ls, lt]), e2] at key
        rw [et, dt_cons]
        have k2 : c * (d * z0 + dt t' z') = 0 := by
          rw [Int.mul_neg, ← Int.mul_assoc, Int.mul_comm d c, Int.mul_assoc] at key
          rw [Int.mul_add]; omega
        rcases Int.mul_eq_zero.mp k2 with h | h
        · exact (h0 h).elim
        · exact h
    · have hd : ∀ t ∈ S, ∃ t', f t = 0 :: t' ∧ t'.length = n := fun t ht => by
        obtain ⟨d, t', et, lt⟩ := cons (hf t ht)
        have h1 : (f t).headD 0 = 0 := Decidable.byContradiction fun z => hh ⟨t, ht, z⟩
        rw [et] at h1
        have h1 : d = 0 := h1
        exact ⟨t', by rw [et, h1], lt⟩
      obtain ⟨S0, h1, h2, h3, h4⟩ := base_ker n S (fun t => (f t).tail) fun t ht => by
        obtain ⟨t', et, lt⟩ := hd t ht
        rw [et]; exact lt
      refine ⟨S0, h1, by omega, fun _ => by omega, fun z hz hk t ht => ?_⟩
      obtain ⟨z0, z', rfl, lz⟩ := cons hz
      have := h4 z' lz (fun u hu => by
        obtain ⟨t', et, lt⟩ := hd u (h1 u hu)
        have := hk u hu
        rw [et, dt_cons] at this
        rw [et]
        show dt t' z' = 0
        omega) t ht
      obtain ⟨t', et, lt⟩ := hd t ht
      rw [et] at this
      have this : dt t' z' = 0 := this
      rw [et, dt_cons, this]; simp
theorem nodup_subL {α : Type} [DecidableEq α] : ∀ {l l' : List α}, l.Nodup → (∀ a ∈ l, a ∈ l') → l.length ≤ l'.length
  | [], _, _, _ => Nat.zero_le _
  | a :: l, l', hn, hs => by
    rw [List.nodup_cons] at hn
    have ha := hs a List.mem_cons_self
    have := nodup_subL (l' := l'.erase a) hn.2 fun b hb => by
      rw [List.mem_erase_of_ne (fun z => hn.1 (by rw [← z]; exact hb))]
      exact hs b (List.mem_cons_of_mem _ hb)
    rw [List.length_erase_of_mem ha] at this
    have h0 : 0 < l'.length := List.length_pos_of_mem ha
    rw [List.length_cons]; omega
def opts (m : Nat) : List (Option Nat) := none :: (List.range m).map some
def codes (m : Nat) : List (List (Option Nat)) := (opts m).flatMap fun a => (opts m).flatMap fun b => (opts m).map fun c => [a, b, c]
theorem codes_len (m : Nat) : (codes m).length = (m + 1) * ((m + 1) * (m + 1)) := by
  have h1 : (opts m).length = m + 1 := by unfold opts; simp
  have fl : ∀ {α γ : Type} (f : α → List γ) (c : Nat), (∀ a, (f a).length = c) → ∀ l : List α, (l.flatMap f).length = l.length * c := by
    intro α γ f c h l
    induction l with
    | nil => simp
    | cons a l ih => rw [List.flatMap_cons, List.length_append, h a, ih, List.length_cons, Nat.succ_mul, Nat.add_comm]
  unfold codes
  rw [fl _ ((m + 1) * (m + 1)) (fun a => by rw [fl _ (m + 1) (fun b => by rw [List.length_map, h1]), h1]), h1]
theorem ray_count (d : DD n A R) (hA : ∀ b ∈ A, b.length = n) (hn : n ≤ 4) : R.length ≤ (A.length + 1) * ((A.length + 1) * (A.length + 1)) := by
  have hAat : ∀ k, k < A.length → (A.getD k []).length = n ∧ A[k]? = some (A.getD k []) := fun k hk => by
    have : A[k]? = some A[k] := List.getElem?_eq_getElem hk
    rw [List.getD_eq_getElem?_getD, this]
    exact ⟨hA _ (List.getElem_mem hk), rfl⟩
  have ex : ∀ i : Nat, ∃ S0 : List Nat, i < R.length → (∀ s ∈ S0, s < A.length ∧ dt (A.getD s []) (rAt R i).1 = 0) ∧ S0.length ≤ 3 ∧ ∀ z : List Int, z.length = n → (∀ s ∈ S0, dt (A.getD s []) z = 0) → ∀ b ∈ A, dt b (rAt R i).1 = 0 → dt b z = 0 := fun i => by
    by_cases hi : i < R.length
    · obtain ⟨_, hp⟩ := rAt_mem (R := R) hi
      obtain ⟨S0, h1, h2, h3, h4⟩ := base_ker n ((List.range A.length).filter fun k => decide (dt (A.getD k []) (rAt R i).1 = 0)) (fun k => A.getD k []) fun s hs => (hAat s (List.mem_range.mp (List.mem_filter.mp hs).1)).1
      have h5 := h3 ⟨(rAt R i).1, d.lr _ hp, d.nz _ hp, fun s hs => by simpa using (List.mem_filter.mp hs).2⟩
      refine ⟨S0, fun _ => ⟨fun s hs => ⟨List.mem_range.mp (List.mem_filter.mp (h1 s hs)).1, by simpa using (List.mem_filter.mp (h1 s hs)).2⟩, by omega, fun z hz hk b hb h0 => ?_⟩⟩
      obtain ⟨k, hk', e⟩ := List.mem_iff_getElem.mp hb
      have ek : A.getD k [] = b := by rw [List.getD_eq_getElem?_getD, List.getElem?_eq_getElem hk', e]; rfl
      have := h4 z hz hk k (List.mem_filter.mpr ⟨List.mem_range.mpr hk', by rw [ek]; simpa using h0⟩)
      rw [ek] at this; exact this
    · exact ⟨[], fun h => (hi h).elim⟩
  let S : Nat → List Nat := fun i => Classical.choose (ex i)
  have hS : ∀ i, i < R.length → (∀ s ∈ S i, s < A.length ∧ dt (A.getD s []) (rAt R i).1 = 0) ∧ (S i).length ≤ 3 ∧ ∀ z : List Int, z.length = n → (∀ s ∈ S i, dt (A.getD s []) z = 0) → ∀ b ∈ A, dt b (rAt R i).1 = 0 → dt b z = 0 := fun i hi => Classical.choose_spec (ex i) hi
  let code : Nat → List (Option Nat) := fun i => ((S i).map some ++ [none, none, none]).take 3
  have dec : ∀ i, i < R.length → (code i).filterMap id = S i := fun i hi => by
    have hl := (hS i hi).2.1
    show (((S i).map some ++ [none, none, none]).take 3).filterMap id = S i
    match S i, hl with
    | [], _ => rfl
    | [a], _ => rfl
    | [a, b], _ => rfl
    | [a, b, c], _ => rfl
    | _ :: _ :: _ :: _ :: _, h => simp at h
  have inj : ((List.range R.length).map code).Nodup := by
    rw [List.nodup_iff_pairwise_ne, List.pairwise_map]
    have : (List.range R.length).Pairwise fun i j => i < R.length ∧ j < R.length ∧ i < j := by
      rw [List.pairwise_iff_getElem]
      intro p q hp hq hpq
      simp only [List.length_range] at hp hq
      simp [List.getElem_range]; omega
    refine this.imp fun {i j} ⟨hi, hj, hij⟩ e => ?_
    have eS : S i = S j := by rw [← dec i hi, ← dec j hj, e]
    obtain ⟨gi, hp⟩ := rAt_mem (R := R) hi
    obtain ⟨gj, hq⟩ := rAt_mem (R := R) hj
    have tle : Tle A (rAt R i).1 (rAt R j).1 := (hS i hi).2.2 (rAt R j).1 (d.lr _ hq) fun s hs => by
      rw [eS] at hs
      exact ((hS j hj).1 s hs).2
    exact d.anti i j _ _ (by omega) gi gj ((d.le hp hq).mpr tle)
  have sub : ∀ c ∈ (List.range R.length).map code, c ∈ codes A.length := fun c hc => by
    obtain ⟨i, hi, rfl⟩ := List.mem_map.mp hc
    have hi := List.mem_range.mp hi
    have hl := (hS i hi).2.1
    have hm := (hS i hi).1
    have so : ∀ s ∈ S i, some s ∈ opts A.length := fun s hs => List.mem_cons_of_mem _ (List.mem_map.mpr ⟨s, List.mem_range.mpr (hm s hs).1, rfl⟩)
    have no : (none : Option Nat) ∈ opts A.length := List.mem_cons_self
    show ((S i).map some ++ [none, none, none]).take 3 ∈ _
    have mk : ∀ a b c, a ∈ opts A.length → b ∈ opts A.length → c ∈ opts A.length → [a, b, c] ∈ codes A.length := fun a b c ha hb hc => List.mem_flatMap.mpr ⟨a, ha, List.mem_flatMap.mpr ⟨b, hb, List.mem_map.mpr ⟨c, hc, rfl⟩⟩⟩
    generalize S i = l at hl so
    match l, hl, so with
    | [], _, _ => exact mk _ _ _ no no no
    | [a], _, so => exact mk _ _ _ (so a (by simp)) no no
    | [a, b], _, so => exact mk _ _ _ (so a (by simp)) (so b (by simp)) no
    | [a, b, c], _, so => exact mk _ _ _ (so a (by simp)) (so b (by simp)) (so c (by simp))
    | _ :: _ :: _ :: _ :: _, h, _ => simp at h
  have := nodup_subL inj sub
  rw [codes_len, List.length_map, List.length_range] at this
  exact this
end
end Rf.Dd
/-! WkJ: rays. -/
namespace Rf
open PySem PySem.Spec PyProof.Rows L2
open Rf.Dd (Ry gcdV redV common adj betw mixV kept pairOf pairs cut rAt firstR firstT unitV raysF raysFrom)
def qRay (CR : Addr) : RP Ry := fun A v x => ∃ (a dx : Addr) (v1 v2 : V), v = .ref a ∧ A a = some (.ins CR dx [("told", v1), ("tight", v2)]) ∧ rL qI A v1 x.1 ∧ rL qI A v2 x.2
instance (CR : Addr) : Mono (qRay CR) := ⟨fun l ⟨a, dx, v1, v2, h1, h2, h3, h4⟩ => ⟨a, dx, v1, v2, h1, l.ins h2, Mono.le l h3, Mono.le l h4⟩⟩
def small (b : Nat) (l : List Int) : Prop := l.length ≤ 1000 ∧ ∀ v ∈ l, v.natAbs < 2 ^ b
section
variable {T : Tx} {CS CR aS : Addr} {β : Option Addr} {Γ : EnvA} {te ta : TE} {K : PySem.W.Frag} {pr : Ry → Prop}
theorem ev_told {x : Ry} (F : TF T CS CR aS) (h : Ev β te Γ (qRay CR) (· = x)) : Ev β (tFld T.K te "told") Γ (rL qI) (· = x.1) :=
  ev_fld F.clR F.naR1 (·.1) (fun A v x ⟨a, dx, v1, v2, h1, h2, h3, h4⟩ => ⟨a, dx, _, v1, h1, h2, rfl, h3⟩) h (by rintro _ rfl; rfl)
theorem ev_tight {x : Ry} (F : TF T CS CR aS) (h : Ev β te Γ (qRay CR) (· = x)) : Ev β (tFld T.K te "tight") Γ (rL qI) (· = x.2) :=
  ev_fld F.clR F.naR2 (·.2) (fun A v x ⟨a, dx, v1, v2, h1, h2, h3, h4⟩ => ⟨a, dx, _, v2, h1, h2, rfl, h4⟩) h (by rintro _ rfl; rfl)
abbrev s_reduced : Stmt := topS 38
abbrev N_reduced : List Str := ["told", "divisor", "number"]
theorem sc_reduced : FnScope N_reduced ["told"] (defScope s_reduced) := ⟨rfl, rfl, rfl, by decide +kernel, rfl, by decide +kernel, by decide +kernel⟩
theorem nd_reduced : N_reduced.Nodup := by decide +kernel
theorem bd_reduced (kV doc pm : Value) (an : Option Addr) (cdv ct : Value) (us : List Value) (hl : us.length = List.length (α := Str) ["told"]) : bindArgs (PySem.W.fnOf "reduced" "reduced" (defArgs s_reduced) (defBody s_reduced) (defScope s_reduced) .none kV doc pm an cdv ct) ⟨us, []⟩ = pure (List.zip (α := Str) ["told"] us) := match us, hl with | [_], _ => rfl

abbrev spReduced : Sp := spOf (ι := List Int) (fun _ => none) (fun g => [sh (rL qI) g]) (fun g => small 8000 g) (rL qI) (fun g z => z = redV g)
theorem gcd_small {l : List Int} (h : small 8000 l) : gcdV l < 2 ^ 8000 := by
  by_cases hz : ∃ v ∈ l, v ≠ 0
  · obtain ⟨v, hv, h0⟩ := hz
    have h1 := Int.ofNat_dvd_left.mp (Rf.Dd.gcdV_dvd l v hv)
    exact Nat.lt_of_le_of_lt (Nat.le_of_dvd (by omega) h1) (h.2 v hv)
  · have : ∀ (l : List Int), (∀ v ∈ l, v = 0) → l.foldl (fun g v => Nat.gcd g v.natAbs) 0 = 0 := by
      intro l
      induction l with
      | nil => intro _; rfl
      | cons a l ih =>
        intro h
        rw [List.foldl_cons, h a List.mem_cons_self]
        exact ih fun v hv => h v (List.mem_cons_of_mem _ hv)
    have e : gcdV l = 0 := this l fun v hv => Decidable.byContradiction fun z => hz ⟨v, hv, z⟩
    rw [e]
    exact Nat.pow_pos (by decide)
theorem ok_reduced (F : TF T CS CR aS) (D : Dn T "reduced" s_reduced) : Cl T 1 "reduced" spReduced := by
  refine cl_def D sc_reduced bd_reduced (fun _ => rfl) fun f cdv A outer s H E hr => ⟨_, (pss_cons (ps_set (i := 1) nd_reduced rfl (Or.inr rfl) pe_int)
      (pss_cons (ps_for PassesOwn.never rfl (piL (⟨rfl, rfl, rfl, rfl, rfl⟩ : At _ T) (pv 0)) (pg_name (i := 2) nd_reduced rfl (.inl rfl) (.inl rfl)) (pss_one (ps_set (i := 1) nd_reduced rfl (Or.inr rfl) (pbG (⟨rfl, rfl, rfl, rfl, rfl⟩ : At _ T) cr_gcd rfl F.gcd (pa_cons (pv 1) (pa_cons (pv 2) pa_nil))))))
      (pss_cons (ps_if (pt_cmpR op_eq (pv 1) pe_int (nomark _)) (pss_one (ps_ret (pbT (⟨rfl, rfl, rfl, rfl, rfl⟩ : At _ T) (cList (⟨rfl, rfl, rfl, rfl, rfl⟩ : At _ T)) rfl F.list boot_list (pa_cons (pv 0) pa_nil)))) pss_nil)
      (pss_one (ps_ret (pe_lc (own := [("number", 2)]) rfl nd_reduced (piL (⟨rfl, rfl, rfl, rfl, rfl⟩ : At _ T) (pv 0)) (blkOk_by (own := [("number", 2)]) (N := N_reduced) (sc := defScope s_reduced) (by decide +kernel)) (fun _ _ _ _ _ => (pg_name (i := 2) nd_reduced rfl (.inl rfl) (.inr rfl))) (fun _ _ _ _ _ => pts_nil) (fun _ _ _ _ _ => (pe_op op_fdivW (pv 2) (pv 1))))))))), ?_⟩
  rintro l Fm D eb hs hR -
  show Tr Fm [some (sh (rL qI) l), none, none] _ _
  refine tr_asgD (r := qI) (x := 0) ev_int ?_
  refine tr_forS (S := Nat) (ei_list (p := (· = l)) (ev_var rfl) tg_name) (fun xs i g => g = (xs.take i).foldl (fun g v => Nat.gcd g v.natAbs) 0) (fun g => [some (sh (rL qI) l), some (sh qI (g : Int)), none]) ?_ ?_ ?_
  · rintro xs -
    exact ⟨0, rfl, (by repeat (first | exact lss_nil | apply lss_some | apply lss_none))⟩
  · intro xs hxs B i v hv g hg
    show Tr _ [some (sh (rL qI) l), some (sh qI (g : Int)), some (sh qI v)] _ _
    refine tr_last (tr_asgD (r := qI) (x := ((Nat.gcd g v.natAbs : Nat) : Int)) (ev_gcd (ev_var rfl) (ev_var rfl) (by rintro _ _ rfl rfl; rfl)) ?_)
    exact tr_nx rfl (Nat.gcd g v.natAbs) (by rw [take_succ' hv, List.foldl_append, ← hg]; rfl) (by repeat (first | exact lss_nil | apply lss_some | apply lss_none))
  · intro xs hxs g hg
    rw [List.take_length, hxs] at hg
    have hg : g = gcdV l := hg
    have hgs := gcd_small hs
    refine tr_ifD (b := decide ((g : Int) = 0)) (et_test (ev_eqID (ev_var rfl) ev_int)) (fun hb => ?_) (fun hb => tr_nil ?_)
    · have h0 : g = 0 := by have := of_decide_eq_true hb; omega
      refine tr_retS (en_list (p := (· = l)) (ev_var rfl)).ev hR fun z e => ?_
      rw [e]
      show _ = redV l
      unfold Rf.Dd.redV
      rw [if_pos (by rw [← hg]; exact h0)]
    · have h0 : ¬ g = 0 := by have := of_decide_eq_false hb; omega
      refine tr_ret ((en_lc (b := fun _ => true) (q := fun (v z : Int) => z = v / (g : Int)) (ei_list (p := (· = l)) (ev_var rfl) tg_name) (by decide) ?_ (fun _ _ _ _ => et_yes) fun _ _ v _ _ => ev_iiD (ev_var rfl) (ev_var rfl) (wide_div (b := 8000) (by omega) ?_ (by decide) (by decide))).ev) hR ?_
      · rintro _ rfl
        have := hs.1; omega
      · rw [hg]; show gcdV l < _; exact hgs
      · rintro z ⟨l', hl', h⟩
        rw [filter_true', hl'] at h
        rw [paired_eq (f := fun v => v / (g : Int)) h]
        show _ = redV l
        unfold Rf.Dd.redV
        rw [if_neg (by rw [← hg]; exact h0), hg]
abbrev s_Ray___init__ : Stmt := inS (topS 39) 0
abbrev N_Ray___init__ : List Str := ["self", "told", "tight"]
theorem sc_Ray___init__ : FnScope N_Ray___init__ ["self", "told", "tight"] (defScope s_Ray___init__) := ⟨rfl, rfl, rfl, by decide +kernel, rfl, by decide +kernel, by decide +kernel⟩
theorem nd_Ray___init__ : N_Ray___init__.Nodup := by decide +kernel
theorem bd_Ray___init__ (kV doc pm : Value) (an : Option Addr) (cdv ct : Value) (us : List Value) (hl : us.length = List.length (α := Str) ["self", "told", "tight"]) : bindArgs (PySem.W.fnOf "__init__" "Ray.__init__" (defArgs s_Ray___init__) (defBody s_Ray___init__) (defScope s_Ray___init__) .none kV doc pm an cdv ct) ⟨us, []⟩ = pure (List.zip (α := Str) ["self", "told", "tight"] us) := match us, hl with | [_, _, _], _ => rfl

def phiR (g : List Int × List Int) (A : Hp) (fs : List (Str × V)) : Prop := ∃ v1 v2, fs = ([("told", v1), ("tight", v2)] : List (Str × V)) ∧ rL qI A v1 g.1 ∧ rL qI A v2 g.2
theorem phiR_le {g : List Int × List Int} {A B : Hp} {fs : List (Str × V)} (l : Le A B) (h : phiR g A fs) : phiR g B fs := let ⟨v1, v2, h1, h2, h3⟩ := h; ⟨v1, v2, h1, Mono.le l h2, Mono.le l h3⟩
def phiR1 (g : List Int × List Int) (A : Hp) (fs : List (Str × V)) : Prop := ∃ v1, fs = ([("told", v1)] : List (Str × V)) ∧ rL qI A v1 g.1
abbrev spRay (CR : Addr) : Sp := spIn CR (ι := List Int × List Int) (fun g => [sh (rL qI) g.1, sh (rL qI) g.2]) (fun _ => True) phiR
theorem ok_Ray {f : Addr} {fd : FuncData} (F : TF T CS CR aS) (G : FunD T.K "__init__" "Ray.__init__" (defArgs s_Ray___init__) (defBody s_Ray___init__) (defScope s_Ray___init__) [] [] f fd) (M : Mk T.K CR f) (hm : T.mg "Ray" = some (.ref CR)) : Mc T 1 "Ray" CR (spRay CR) := by
  refine mc_def G M hm sc_Ray___init__ bd_Ray___init__ (fun _ => rfl) (m := fun _ _ _ _ l h => phiR_le l h) (fun _ _ _ _ h => h) fun f cdv A outer s H E hr => ⟨_, (pss_cons (psfld (⟨rfl, rfl, rfl, rfl, rfl⟩ : At _ T) (pv 0) (pv 1) rfl)
      (pss_one (psfld (⟨rfl, rfl, rfl, rfl, rfl⟩ : At _ T) (pv 0) (pv 2) rfl))), ?_⟩
  rintro ⟨g, p⟩ x Fm D eb - hR
  refine tr_setF (i := 0) (r := rL qI) (φ' := phiR1 (g, p)) (m' := fun _ _ _ l h => let ⟨v1, h1, h2⟩ := h; ⟨v1, h1, Mono.le l h2⟩) F.clR F.naR1 rfl (ev_var rfl) (fun _ _ h => by rw [h]; decide) (fun z e A fs v h1 h2 => ?_) fun _ _ => ?_
  · rw [h1]; subst e; exact ⟨v, rfl, h2⟩
  refine tr_last (tr_setF (i := 0) (r := rL qI) (φ' := phiR (g, p)) (m' := fun _ _ _ l h => phiR_le l h) F.clR F.naR2 rfl (ev_var rfl) (fun _ _ h => by obtain ⟨v1, h1, _⟩ := h; rw [h1]; show 1 < 1000; decide) (fun z e A fs v h1 h2 => ?_) fun _ _ => ?_)
  · obtain ⟨v1, rfl, h4⟩ := h1; subst e; exact ⟨v1, v, rfl, h4, h2⟩
  exact fun σ H' st => hR _ rfl σ H' st
theorem ev_ray {E : XK} {ta tb : TE} {l m : List Int} (h1 : Ev β ta Γ (rL qI) (· = l)) (h2 : Ev β tb Γ (rL qI) (· = m)) : Ev β (tMake CR (spRay CR) [] E (tCons ta (tCons tb tNil))) Γ (qRay CR) (· = (l, m)) :=
  ev_make (ea_cons h1 fun x hx => ea_cons h2 fun y hy => ea_nil ⟨(l, m), by rw [hx, hy], trivial, fun A a dx fs hA hφ => by
    obtain ⟨v1, v2, e, q1, q2⟩ := hφ
    subst e
    exact ⟨(l, m), rfl, a, dx, v1, v2, rfl, upd_same, Mono.le (le_new hA) q1, Mono.le (le_new hA) q2⟩⟩)
abbrev s_first_rays : Stmt := topS 40
abbrev N_first_rays : List Str := ["size", "rays", "place", "told", "other"]
theorem sc_first_rays : FnScope N_first_rays ["size"] (defScope s_first_rays) := ⟨rfl, rfl, rfl, by decide +kernel, rfl, by decide +kernel, by decide +kernel⟩
theorem nd_first_rays : N_first_rays.Nodup := by decide +kernel
theorem bd_first_rays (kV doc pm : Value) (an : Option Addr) (cdv ct : Value) (us : List Value) (hl : us.length = List.length (α := Str) ["size"]) : bindArgs (PySem.W.fnOf "_first_rays" "_first_rays" (defArgs s_first_rays) (defBody s_first_rays) (defScope s_first_rays) .none kV doc pm an cdv ct) ⟨us, []⟩ = pure (List.zip (α := Str) ["size"] us) := match us, hl with | [_], _ => rfl

abbrev spFirst (CR : Addr) : Sp := spOf (ι := Nat) (fun _ => none) (fun g => [sh qI (g : Int)]) (fun g => g ≤ 1000) (rL (qRay CR)) (fun g z => z = firstR g)
theorem ok_first_rays (F : TF T CS CR aS) (cRay : Mc T 1 "Ray" CR (spRay CR)) (D : Dn T "_first_rays" s_first_rays) : Cl T 3 "_first_rays" (spFirst CR) := by
  refine cl_def D sc_first_rays bd_first_rays (fun _ => rfl) fun f cdv A outer s H E hr => ⟨_, (pss_cons (ps_set (i := 1) nd_first_rays rfl (Or.inl rfl) (pe_lst pa_nil))
      (pss_cons (ps_for PassesOwn.never rfl (piR (⟨rfl, rfl, rfl, rfl, rfl⟩ : At _ T) rfl F.range (pa_cons (pv 0) pa_nil)) (pg_name (i := 2) nd_first_rays rfl (.inr rfl) (.inl rfl)) (pss_cons (ps_setLc (i := 3) (own := [("other", 4)]) rfl nd_first_rays rfl rfl (sw_true rfl rfl rfl rfl) (piR (⟨rfl, rfl, rfl, rfl, rfl⟩ : At _ T) rfl F.range (pa_cons (pv 0) pa_nil)) (blkOk_by (own := [("other", 4)]) (N := N_first_rays) (sc := defScope s_first_rays) (by decide +kernel)) (fun _ _ _ _ _ => (pg_name (i := 4) nd_first_rays rfl (.inl rfl) (.inr rfl))) (fun _ _ _ _ _ => pts_nil) (fun _ _ _ _ _ => (pbT (⟨rfl, rfl, rfl, rfl, rfl⟩ : At _ T) cInt rfl F.int boot_int (pa_cons (pe_cmpR op_eq (pv 4) (pv 2) (nomark _)) pa_nil))))
      (pss_one (ps_expr (pmAppend (⟨rfl, rfl, rfl, rfl, rfl⟩ : At _ T) (pv 1) (pa_cons (pmk cRay (⟨rfl, rfl, rfl, rfl, rfl⟩ : At _ T) hr (by decide) rfl (pa_cons (pv 3) (pa_cons (pe_lc (own := [("other", 4)]) rfl nd_first_rays (piR (⟨rfl, rfl, rfl, rfl, rfl⟩ : At _ T) rfl F.range (pa_cons (pv 0) pa_nil)) (blkOk_by (own := [("other", 4)]) (N := N_first_rays) (sc := defScope s_first_rays) (by decide +kernel)) (fun _ _ _ _ _ => (pg_name (i := 4) nd_first_rays rfl (.inl rfl) (.inr rfl))) (fun _ _ _ _ _ => (pts_one (pt_cmpR op_ne (pv 4) (pv 2) (nomark _)))) (fun _ _ _ _ _ => (pv 4))) pa_nil))) pa_nil))))))
      (pss_one (ps_ret (pv 1))))), ?_⟩
  rintro n Fm D eb hn hR -
  have hn : n ≤ 1000 := hn
  show Tr Fm [some (sh qI (n : Int)), none, none, none, none] _ _
  refine tr_asgNE (r := qRay CR) (xs := []) en_nil ?_
  refine tr_forS (S := List Ry) (ei_range (pi := (· = (n : Int))) (ev_var rfl) (by rintro _ rfl; omega) tg_name) (fun xs i l => l = (List.range i).map fun p => (unitV n p, firstT n p)) (fun l => [some (sh qI (n : Int)), some (ownL (qRay CR) l), none, none, none]) ?_ ?_ ?_
  · rintro xs -
    exact ⟨[], rfl, (by repeat (first | exact lss_nil | apply lss_some | apply lss_none))⟩
  · rintro xs ⟨k, hk, hxs⟩ B i c hc l hl
    obtain ⟨rfl, hi⟩ := range_at hxs hc
    have hi : i < n := by rw [hk] at hi; omega
    show Tr _ [some (sh qI (n : Int)), some (ownL (qRay CR) l), some (sh qI (i : Int)), none, none] _ _
    have rng : ∀ {Γ' : EnvA} {tt : TT} {j : Nat}, True := fun {_ _ _} => trivial
    refine tr_asgNE (r := qI) (xs := unitV n i) ((en_lc (b := fun _ => true) (q := fun (o z : Int) => z = b2 (decide (o = (i : Int)))) (ei_range (pi := (· = (n : Int))) (ev_var rfl) (by rintro _ rfl; omega) tg_name) (by decide) ?_ (fun _ _ _ _ => et_yes) fun _ _ o _ _ => ev_intBD (ev_eqID (ev_var rfl) (ev_var rfl))).imp ?_) ?_
    · rintro _ ⟨_, rfl, rfl⟩; simp; omega
    · rintro z ⟨_, ⟨_, rfl, rfl⟩, h⟩
      rw [filter_true'] at h
      rw [paired_eq (f := fun o => b2 (decide (o = (i : Int)))) h, List.map_map]
      unfold Rf.Dd.unitV
      show List.map _ (List.range ((n : Int)).toNat) = _
      rw [Int.toNat_natCast]
      apply List.map_congr_left
      intro k _
      show b2 (decide ((k : Int) = (i : Int))) = _
      unfold b2
      by_cases q : k = i
      · simp [q]
      · have : ¬ (k : Int) = (i : Int) := by omega
        simp [q, this]
    refine tr_share (i := 3) rfl (tr_last (tr_appendD (i := 1) (x := (unitV n i, firstT n i)) rfl (ev_ray (ev_var rfl) ((en_lc (b := fun o => !decide (o = (i : Int))) (q := fun (o z : Int) => z = o) (ei_range (pi := (· = (n : Int))) (ev_var rfl) (by rintro _ rfl; omega) tg_name) (by decide) ?_ (fun _ _ o _ => et_test (ev_neID (ev_var rfl) (ev_var rfl))) fun _ _ o _ _ => ev_var rfl).imp ?_).ev) ?_ ?_))
    · rintro _ ⟨_, rfl, rfl⟩; simp; omega
    · rintro z ⟨_, ⟨_, rfl, rfl⟩, h⟩
      rw [paired_eq (f := fun o : Int => o) h, List.map_id']
      unfold Rf.Dd.firstT
      rw [List.filter_map, Int.toNat_natCast]
      congr 1
      apply List.filter_congr
      intro k _
      show (!decide ((k : Int) = (i : Int))) = _
      congr 1
      exact decide_eq_decide.mpr (by omega)
    · rw [hl, List.length_map, List.length_range]; omega
    · exact tr_nx rfl (l ++ [(unitV n i, firstT n i)]) (by rw [hl, List.range_succ, List.map_append]; rfl) (by repeat (first | exact lss_nil | apply lss_some | apply lss_none))
  · rintro xs ⟨k, hk, hxs⟩ l hl
    have e : xs.length = n := by rw [hxs, List.length_map, List.length_range, hk]; omega
    refine tr_share (i := 1) rfl (tr_retD (ev_var rfl) hR ?_)
    rw [hl, e]; rfl
abbrev s_common : Stmt := topS 41
abbrev N_common : List Str := ["one", "two", "number"]
theorem sc_common : FnScope N_common ["one", "two"] (defScope s_common) := ⟨rfl, rfl, rfl, by decide +kernel, rfl, by decide +kernel, by decide +kernel⟩
theorem nd_common : N_common.Nodup := by decide +kernel
theorem bd_common (kV doc pm : Value) (an : Option Addr) (cdv ct : Value) (us : List Value) (hl : us.length = List.length (α := Str) ["one", "two"]) : bindArgs (PySem.W.fnOf "_common" "_common" (defArgs s_common) (defBody s_common) (defScope s_common) .none kV doc pm an cdv ct) ⟨us, []⟩ = pure (List.zip (α := Str) ["one", "two"] us) := match us, hl with | [_, _], _ => rfl

abbrev spCommon (CR : Addr) : Sp := spOf (ι := Ry × Ry) (fun _ => none) (fun g => [sh (qRay CR) g.1, sh (qRay CR) g.2]) (fun g => g.1.2.length ≤ 1000000) (rL qI) (fun g z => z = common g.1 g.2)
theorem ok_common (F : TF T CS CR aS) (D : Dn T "_common" s_common) : Cl T 1 "_common" (spCommon CR) := by
  refine cl_def D sc_common bd_common (fun _ => rfl) fun f cdv A outer s H E hr => ⟨_, (pss_one (ps_ret (pe_lc (own := [("number", 2)]) rfl nd_common (piL (⟨rfl, rfl, rfl, rfl, rfl⟩ : At _ T) (pfld (⟨rfl, rfl, rfl, rfl, rfl⟩ : At _ T) (pv 0))) (blkOk_by (own := [("number", 2)]) (N := N_common) (sc := defScope s_common) (by decide +kernel)) (fun _ _ _ _ _ => (pg_name (i := 2) nd_common rfl (.inl rfl) (.inr rfl))) (fun _ _ _ _ _ => (pts_one (pt_cmpR (oIn (⟨rfl, rfl, rfl, rfl, rfl⟩ : At _ T)) (pv 2) (pfld (⟨rfl, rfl, rfl, rfl, rfl⟩ : At _ T) (pv 1)) rfl))) (fun _ _ _ _ _ => (pv 2))))), ?_⟩
  rintro ⟨p, q⟩ Fm D eb hz hR -
  have hz : p.2.length ≤ 1000000 := hz
  refine tr_ret ((en_lc (b := fun t => decide (t ∈ q.2)) (q := fun (o z : Int) => z = o) (ei_list (ev_tight (x := p) F (ev_var rfl)) tg_name) (by decide) ?_ (fun _ _ t _ => et_test (ev_inL (ev_var rfl) (ev_tight (x := q) F (ev_var rfl)) ?_)) fun _ _ o _ _ => ev_var rfl).ev) hR ?_
  · rintro _ rfl; omega
  · rintro _ _ rfl rfl; exact List.contains_eq_mem _ _
  · rintro z ⟨_, rfl, h⟩
    rw [paired_eq (f := fun o : Int => o) h, List.map_id']
    rfl
theorem ev_rAt {R : List Ry} {i : Nat} (h : Ev β ta Γ (rL (qRay CR)) (· = R)) (h2 : Ev β te Γ qI (· = (i : Int))) (hi : i < R.length) : Ev β (tOp (rIxL K) ta te) Γ (qRay CR) (· = rAt R i) :=
  ev_ixL h (fun _ _ => h2) (by
    intro l n e1 e2
    subst e1 e2
    exact ⟨_, by omega, (Rf.Dd.rAt_mem hi).1, rfl⟩)
theorem enum_at {α : Type} {xs : List α} {i : Nat} {z : Int × α} (h : (((List.range xs.length).map Int.ofNat).zip xs)[i]? = some z) : i < xs.length ∧ ∃ x, xs[i]? = some x ∧ z = ((i : Int), x) := by
  rw [List.getElem?_zip_eq_some] at h
  obtain ⟨h1, h2⟩ := h
  have hi : i < xs.length := (List.getElem?_eq_some_iff.mp h2).1
  refine ⟨hi, z.2, h2, ?_⟩
  rw [List.getElem?_map, List.getElem?_range hi] at h1
  obtain ⟨a, b⟩ := z
  have h1 : some (i : Int) = some a := h1
  rw [← Option.some.inj h1]
theorem enum_len {α : Type} (xs : List α) : (((List.range xs.length).map Int.ofNat).zip xs).length = xs.length := by simp
def adjK (R : List Ry) (i j k : Nat) : Bool := decide (k = i) || decide (k = j) || !((common (rAt R i) (rAt R j)).all fun t => decide (t ∈ (rAt R k).2))
theorem adj_def (R : List Ry) (i j : Nat) : adj R i j = (List.range R.length).all (adjK R i j) := rfl
abbrev s_are_neighbours : Stmt := topS 42
abbrev N_are_neighbours : List Str := ["rays", "first", "second", "common", "at", "ray", "number"]
theorem sc_are_neighbours : FnScope N_are_neighbours ["rays", "first", "second"] (defScope s_are_neighbours) := ⟨rfl, rfl, rfl, by decide +kernel, rfl, by decide +kernel, by decide +kernel⟩
theorem nd_are_neighbours : N_are_neighbours.Nodup := by decide +kernel
theorem bd_are_neighbours (kV doc pm : Value) (an : Option Addr) (cdv ct : Value) (us : List Value) (hl : us.length = List.length (α := Str) ["rays", "first", "second"]) : bindArgs (PySem.W.fnOf "_are_neighbours" "_are_neighbours" (defArgs s_are_neighbours) (defBody s_are_neighbours) (defScope s_are_neighbours) .none kV doc pm an cdv ct) ⟨us, []⟩ = pure (List.zip (α := Str) ["rays", "first", "second"] us) := match us, hl with | [_, _, _], _ => rfl

abbrev spNb (CR : Addr) : Sp := spOf (ι := List Ry × Nat × Nat) (fun _ => none) (fun g => [sh (rL (qRay CR)) g.1, sh qI (g.2.1 : Int), sh qI (g.2.2 : Int)]) (fun g => g.2.1 < g.1.length ∧ g.2.2 < g.1.length ∧ ∀ p ∈ g.1, p.2.length ≤ 1000000) qB (fun g z => z = adj g.1 g.2.1 g.2.2)
theorem ok_neighbours (F : TF T CS CR aS) (c_common : Cl T 1 "_common" (spCommon CR)) (D : Dn T "_are_neighbours" s_are_neighbours) : Cl T 2 "_are_neighbours" (spNb CR) := by
  refine cl_def D sc_are_neighbours bd_are_neighbours (fun _ => rfl) fun f cdv A outer s H E hr => ⟨_, (pss_cons (ps_set (i := 3) nd_are_neighbours rfl (Or.inl rfl) (pc c_common (⟨rfl, rfl, rfl, rfl, rfl⟩ : At _ T) hr (by decide) rfl (pa_cons (ixL (⟨rfl, rfl, rfl, rfl, rfl⟩ : At _ T) (pv 0) (pv 1)) (pa_cons (ixL (⟨rfl, rfl, rfl, rfl, rfl⟩ : At _ T) (pv 0) (pv 2)) pa_nil))))
      (pss_cons (ps_for PassesOwn.never rfl (piE (⟨rfl, rfl, rfl, rfl, rfl⟩ : At _ T) rfl F.enumerate (pa_cons (pv 0) pa_nil)) (pgT 2 (⟨rfl, rfl, rfl, rfl, rfl⟩ : At _ T) rfl (pgs_cons (pg_name (i := 4) nd_are_neighbours rfl (.inl rfl) (.inl rfl)) (pgs_cons (pg_name (i := 5) nd_are_neighbours rfl (.inr rfl) (.inl rfl)) pgs_nil))) (pss_one (ps_if (PW.pt (pw_and (pt_cmpR (oNotIn (⟨rfl, rfl, rfl, rfl, rfl⟩ : At _ T)) (pv 4) (pe_tup (pa_cons (pv 1) (pa_cons (pv 2) pa_nil))) rfl) (pw_and1 (pt_val (pb (⟨rfl, rfl, rfl, rfl, rfl⟩ : At _ T) (cAll (⟨rfl, rfl, rfl, rfl, rfl⟩ : At _ T) rfl) rfl F.all boot_all (pa_cons (pe_lc (own := [("number", 6)]) rfl nd_are_neighbours (piL (⟨rfl, rfl, rfl, rfl, rfl⟩ : At _ T) (pv 3)) (blkOk_by (own := [("number", 6)]) (N := N_are_neighbours) (sc := defScope s_are_neighbours) (by decide +kernel)) (fun _ _ _ _ _ => (pg_name (i := 6) nd_are_neighbours rfl (.inl rfl) (.inr rfl))) (fun _ _ _ _ _ => pts_nil) (fun _ _ _ _ _ => (pe_cmpR (oIn (⟨rfl, rfl, rfl, rfl, rfl⟩ : At _ T)) (pv 6) (pfld (⟨rfl, rfl, rfl, rfl, rfl⟩ : At _ T) (pv 5)) rfl))) pa_nil)))))) (pss_one (ps_ret pe_bl)) pss_nil)))
      (pss_one (ps_ret pe_bl)))), ?_⟩
  rintro ⟨R, i, j⟩ Fm D eb ⟨hi, hj, ht⟩ hR -
  have hi : i < R.length := hi
  have hj : j < R.length := hj
  have ht : ∀ p ∈ R, p.2.length ≤ 1000000 := ht
  show Tr Fm [some (sh (rL (qRay CR)) R), some (sh qI (i : Int)), some (sh qI (j : Int)), none, none, none, none] _ _
  refine tr_asgD (r := rL qI) (x := common (rAt R i) (rAt R j)) (ev_call2D (ev_rAt (ev_var rfl) (ev_var rfl) hi) (ev_rAt (ev_var rfl) (ev_var rfl) hj) (rAt R i, rAt R j) rfl (ht _ (Rf.Dd.rAt_mem hi).2) fun _ h => h) ?_
  have hcl : (common (rAt R i) (rAt R j)).length ≤ 1000000 := Nat.le_trans (List.length_filter_le _ _) (ht _ (Rf.Dd.rAt_mem hi).2)
  refine tr_forS (S := Unit) (ei_enum (p := (· = R)) (ev_var rfl) tg_pair) (fun _ n _ => ∀ k, k < n → adjK R i j k = true) (fun _ => [some (sh (rL (qRay CR)) R), some (sh qI (i : Int)), some (sh qI (j : Int)), some (sh (rL qI) (common (rAt R i) (rAt R j))), none, none, none]) ?_ ?_ ?_
  · rintro xs -
    exact ⟨(), (fun k hk => absurd hk (Nat.not_lt_zero k)), (by repeat (first | exact lss_nil | apply lss_some | apply lss_none))⟩
  · rintro xs ⟨R', e1, hxs⟩ B k c hc _ hS
    obtain rfl := e1.symm
    rw [hxs] at hc
    obtain ⟨hk, p, hp, rfl⟩ := enum_at hc
    have ep : rAt R k = p := Rf.Dd.rAt_some hp
    show Tr _ [some (sh (rL (qRay CR)) R), some (sh qI (i : Int)), some (sh qI (j : Int)), some (sh (rL qI) (common (rAt R i) (rAt R j))), some (sh qI (k : Int)), some (sh (qRay CR) p), none] _ _
    refine tr_last (tr_ifD (b := !adjK R i j k) ((et_andD (a := !(decide (k = i) || decide (k = j))) (b := (common (rAt R i) (rAt R j)).all fun t => decide (t ∈ (rAt R k).2)) (et_test (ev_niT (ev_var rfl) (ev_tupI2 (ev_var rfl) (ev_var rfl)) ?_)) fun _ => et_B (ev_all (p := (· = (common (rAt R i) (rAt R j)).map fun t => decide (t ∈ p.2))) ((en_lc (b := fun _ => true) (q := fun (t : Int) (z : Bool) => z = decide (t ∈ p.2)) (ei_list (p := (· = common (rAt R i) (rAt R j))) (ev_var rfl) tg_name) (by decide) ?_ (fun _ _ _ _ => et_yes) fun _ _ t _ _ => ev_inL (ev_var rfl) (ev_tight (x := p) F (ev_var rfl)) ?_).ev.imp ?_) ?_)).imp ?_) (fun hb => ?_) (fun hb => tr_nil ?_))
    · rintro _ _ rfl rfl
      have e1 : decide ((k : Int) = (i : Int)) = decide (k = i) := decide_eq_decide.mpr (by omega)
      have e2 : decide ((k : Int) = (j : Int)) = decide (k = j) := decide_eq_decide.mpr (by omega)
      rw [← e1, ← e2]
      simp [Bool.beq_eq_decide_eq]
    · rintro _ rfl; omega
    · rintro _ _ rfl rfl; exact List.contains_eq_mem _ _
    · rintro z ⟨_, rfl, h⟩
      rw [filter_true'] at h
      exact paired_eq (f := fun t : Int => decide (t ∈ p.2)) h
    · rintro _ rfl
      rw [List.all_map, ep]; rfl
    · rintro _ rfl
      unfold adjK
      cases decide (k = i) <;> cases decide (k = j) <;> simp
    · refine tr_retS ev_bl hR fun z e => ?_
      rw [e]
      show false = adj R i j
      rw [adj_def]
      symm
      rw [List.all_eq_false]
      exact ⟨k, List.mem_range.mpr hk, by simpa using hb⟩
    · refine tr_nx rfl () (fun k' hk' => ?_) (by repeat (first | exact lss_nil | apply lss_some | apply lss_none))
      by_cases q : k' = k
      · rw [q]; simpa using hb
      · exact hS k' (by omega)
  · rintro xs ⟨R', e1, hxs⟩ _ hS
    obtain rfl := e1.symm
    have e : xs.length = R.length := by rw [hxs, enum_len]
    refine tr_retD ev_bl hR ?_
    show true = adj R i j
    rw [adj_def]
    symm
    rw [List.all_eq_true]
    intro k hk
    exact hS k (by rw [e]; exact List.mem_range.mp hk)
abbrev s_between : Stmt := topS 43
abbrev N_between : List Str := ["one", "high", "two", "low", "number", "told", "a", "b"]
theorem sc_between : FnScope N_between ["one", "high", "two", "low", "number"] (defScope s_between) := ⟨rfl, rfl, rfl, by decide +kernel, rfl, by decide +kernel, by decide +kernel⟩
theorem nd_between : N_between.Nodup := by decide +kernel
theorem bd_between (kV doc pm : Value) (an : Option Addr) (cdv ct : Value) (us : List Value) (hl : us.length = List.length (α := Str) ["one", "high", "two", "low", "number"]) : bindArgs (PySem.W.fnOf "_between" "_between" (defArgs s_between) (defBody s_between) (defScope s_between) .none kV doc pm an cdv ct) ⟨us, []⟩ = pure (List.zip (α := Str) ["one", "high", "two", "low", "number"] us) := match us, hl with | [_, _, _, _, _], _ => rfl

def small2 (p : Ry) (h : Int) (q : Ry) (l : Int) : Prop := p.1.length ≤ 1000 ∧ h.natAbs < 2 ^ 3990 ∧ l.natAbs < 2 ^ 3990 ∧ (∀ v ∈ p.1, v.natAbs < 2 ^ 3990) ∧ (∀ v ∈ q.1, v.natAbs < 2 ^ 3990) ∧ p.2.length ≤ 1000000
theorem sub_small {a b : Int} {W : Nat} (ha : a.natAbs < W) (hb : b.natAbs < W) : (a - b).natAbs < W * 2 ^ 20 := by omega
theorem mix_small {p q : Ry} {h l : Int} (s : small2 p h q l) : small 8000 (mixV h q.1 l p.1) := by
  obtain ⟨s1, s2, s3, s4, s5, _⟩ := s
  constructor
  · unfold Rf.Dd.mixV; rw [List.length_zipWith]; omega
  · intro v hv
    unfold Rf.Dd.mixV at hv
    have hv : v ∈ zw (fun a b => h * b - l * a) p.1 q.1 := hv
    rw [← zw_zip] at hv
    obtain ⟨x, hx, rfl⟩ := List.mem_map.mp hv
    have a1 := s4 _ (List.of_mem_zip hx).1
    have a2 := s5 _ (List.of_mem_zip hx).2
    have b1 : (h * x.2).natAbs < 2 ^ 3990 * 2 ^ 3990 := by rw [Int.natAbs_mul]; exact Nat.mul_lt_mul'' s2 a2
    have b2 : (l * x.1).natAbs < 2 ^ 3990 * 2 ^ 3990 := by rw [Int.natAbs_mul]; exact Nat.mul_lt_mul'' s3 a1
    have e : (2 : Nat) ^ 8000 = 2 ^ 3990 * 2 ^ 3990 * 2 ^ 20 := by rw [← Nat.pow_add, ← Nat.pow_add]
    rw [e]
    exact sub_small b1 b2
abbrev spBetw (CR : Addr) : Sp := spOf (ι := Ry × Int × Ry × Int × Int) (fun _ => none) (fun g => [sh (qRay CR) g.1, sh qI g.2.1, sh (qRay CR) g.2.2.1, sh qI g.2.2.2.1, sh qI g.2.2.2.2]) (fun g => small2 g.1 g.2.1 g.2.2.1 g.2.2.2.1) (qRay CR) (fun g z => z = betw g.1 g.2.1 g.2.2.1 g.2.2.2.1 g.2.2.2.2)
theorem ok_between (F : TF T CS CR aS) (cRay : Mc T 1 "Ray" CR (spRay CR)) (creduced : Cl T 1 "reduced" spReduced) (c_common : Cl T 1 "_common" (spCommon CR)) (D : Dn T "_between" s_between) : Cl T 3 "_between" (spBetw CR) := by
  refine cl_def D sc_between bd_between (fun _ => rfl) fun f cdv A outer s H E hr => ⟨_, (pss_cons (ps_setLc (i := 5) (own := [("a", 6), ("b", 7)]) rfl nd_between rfl rfl (sw_true rfl rfl rfl rfl) (piZ (⟨rfl, rfl, rfl, rfl, rfl⟩ : At _ T) rfl F.zip (pa_cons (pfld (⟨rfl, rfl, rfl, rfl, rfl⟩ : At _ T) (pv 0)) (pa_cons (pfld (⟨rfl, rfl, rfl, rfl, rfl⟩ : At _ T) (pv 2)) pa_nil))) (blkOk_by (own := [("a", 6), ("b", 7)]) (N := N_between) (sc := defScope s_between) (by decide +kernel)) (fun _ _ _ _ _ => (pgT 2 (⟨rfl, rfl, rfl, rfl, rfl⟩ : At _ T) rfl (pgs_cons (pg_name (i := 6) nd_between rfl (.inl rfl) (.inr rfl)) (pgs_cons (pg_name (i := 7) nd_between rfl (.inl rfl) (.inr rfl)) pgs_nil)))) (fun _ _ _ _ _ => pts_nil) (fun _ _ _ _ _ => (pe_op op_sub (pe_op op_mulW (pv 1) (pv 7)) (pe_op op_mulW (pv 3) (pv 6)))))
      (pss_one (ps_ret (pmk cRay (⟨rfl, rfl, rfl, rfl, rfl⟩ : At _ T) hr (by decide) rfl (pa_cons (pc creduced (⟨rfl, rfl, rfl, rfl, rfl⟩ : At _ T) hr (by decide) rfl (pa_cons (pv 5) pa_nil)) (pa_cons (pe_op op_cat (pc c_common (⟨rfl, rfl, rfl, rfl, rfl⟩ : At _ T) hr (by decide) rfl (pa_cons (pv 0) (pa_cons (pv 2) pa_nil))) (pe_lst (pa_cons (pv 4) pa_nil))) pa_nil)))))), ?_⟩
  rintro ⟨p, h, q, l, num⟩ Fm D eb hs hR -
  have hs : small2 p h q l := hs
  have hm := mix_small hs
  obtain ⟨s1, s2, s3, s4, s5, s6⟩ := hs
  show Tr Fm [some (sh (qRay CR) p), some (sh qI h), some (sh (qRay CR) q), some (sh qI l), some (sh qI num), none, none, none] _ _
  refine tr_asgNE (r := qI) (xs := mixV h q.1 l p.1) ((en_lc (b := fun _ => true) (q := fun (x : Int × Int) (z : Int) => z = h * x.2 - l * x.1) (ei_zip (r1 := qI) (r2 := qI) (ev_told (x := p) F (ev_var rfl)) (ev_told (x := q) F (ev_var rfl)) tg_pair) (by decide) ?_ (fun _ _ _ _ => et_yes) ?_).imp ?_) ?_
  · rintro _ ⟨_, _, e1, e2, rfl⟩
    obtain rfl := e1.symm; obtain rfl := e2.symm
    rw [List.length_zip]; omega
  · rintro _ ⟨_, _, e1, e2, rfl⟩ x hm _
    obtain rfl := e1.symm; obtain rfl := e2.symm
    exact ev_i0D (ev_iiD (ev_var rfl) (ev_var rfl) (wide_mul s2 (s5 _ (List.of_mem_zip hm).2) (by decide) (by decide) (by decide))) (ev_iiD (ev_var rfl) (ev_var rfl) (wide_mul s3 (s4 _ (List.of_mem_zip hm).1) (by decide) (by decide) (by decide)))
  · rintro z ⟨_, ⟨_, _, e1, e2, rfl⟩, hz⟩
    obtain rfl := e1.symm; obtain rfl := e2.symm
    rw [filter_true'] at hz
    rw [paired_eq (f := fun x : Int × Int => h * x.2 - l * x.1) hz]
    exact zw_zip (fun a b => h * b - l * a) p.1 q.1
  refine tr_share (i := 5) rfl (tr_retD (ev_ray (l := redV (mixV h q.1 l p.1)) (m := common p q ++ [num]) (ev_call1D (ev_var rfl) (mixV h q.1 l p.1) rfl hm fun _ h => h) ((en_cat (p := (· = common p q)) (p2 := (· = [num])) (ev_call2D (ev_var rfl) (ev_var rfl) (p, q) rfl s6 fun _ h => h) (fun _ _ => ((en_lst1 (ev_var rfl)).imp ?_).ev) ?_).imp ?_).ev) hR rfl)
  · rintro _ ⟨x, rfl, rfl⟩; rfl
  · rintro _ _ rfl rfl
    have : (common p q).length ≤ p.2.length := List.length_filter_le _ _
    simp; omega
  · rintro _ ⟨_, _, rfl, rfl, rfl⟩; rfl
abbrev s_cut : Stmt := topS 44
abbrev N_cut : List Str := ["rays", "inequality", "number", "heights", "ray", "fresh", "height", "first", "high", "second", "low"]
theorem sc_cut : FnScope N_cut ["rays", "inequality", "number"] (defScope s_cut) := ⟨rfl, rfl, rfl, by decide +kernel, rfl, by decide +kernel, by decide +kernel⟩
theorem nd_cut : N_cut.Nodup := by decide +kernel
theorem bd_cut (kV doc pm : Value) (an : Option Addr) (cdv ct : Value) (us : List Value) (hl : us.length = List.length (α := Str) ["rays", "inequality", "number"]) : bindArgs (PySem.W.fnOf "_cut" "_cut" (defArgs s_cut) (defBody s_cut) (defScope s_cut) .none kV doc pm an cdv ct) ⟨us, []⟩ = pure (List.zip (α := Str) ["rays", "inequality", "number"] us) := match us, hl with | [_, _, _], _ => rfl

structure CutOk (a : List Int) (num : Int) (R : List Ry) : Prop where
  la : a.length ≤ 1000
  sa : ∀ x ∈ a, x.natAbs < 2 ^ 4000
  ra : ∀ p ∈ R, p.1.length ≤ 1000 ∧ p.2.length ≤ 999999 ∧ ∀ v ∈ p.1, v.natAbs < 2 ^ 3990
  ha : ∀ p ∈ R, (Rf.Dd.dt a p.1).natAbs < 2 ^ 3990
  hl : R.length ≤ 9000000
  hc : (cut a num R).length < 16777216
theorem flat_pre {α : Type} (f : Nat → List α) {i n : Nat} (h : i ≤ n) : ((List.range i).flatMap f).length ≤ ((List.range n).flatMap f).length := by
  induction n with
  | zero => rw [Nat.le_zero.mp h]; exact Nat.le_refl _
  | succ n ih =>
    by_cases q : i = n + 1
    · rw [q]; exact Nat.le_refl _
    · rw [List.range_succ, List.flatMap_append, List.length_append]
      have := ih (by omega)
      omega
theorem flat_succ {α : Type} (f : Nat → List α) (i : Nat) : (List.range (i + 1)).flatMap f = (List.range i).flatMap f ++ f i := by
  rw [List.range_succ, List.flatMap_append]
  simp
abbrev spCut (CR : Addr) : Sp := spOf (ι := List Ry × List Int × Int) (fun _ => none) (fun g => [sh (rL (qRay CR)) g.1, sh (rL qI) g.2.1, sh qI g.2.2]) (fun g => CutOk g.2.1 g.2.2 g.1) (rL (qRay CR)) (fun g z => z = cut g.2.1 g.2.2 g.1)
theorem kept_len {a : List Int} {num : Int} {p : Ry} : (Rf.Dd.kept a num p).length ≤ 1 := by
  unfold Rf.Dd.kept
  split
  · simp
  · split <;> simp
theorem ok_cut (F : TF T CS CR aS) (cRay : Mc T 1 "Ray" CR (spRay CR)) (cproduct : Cl T 1 "product" spProduct) (c_are_neighbours : Cl T 2 "_are_neighbours" (spNb CR)) (c_between : Cl T 3 "_between" (spBetw CR)) (D : Dn T "_cut" s_cut) : Cl T 4 "_cut" (spCut CR) := by
  refine cl_def D sc_cut bd_cut (fun _ => rfl) fun f cdv A outer s H E hr => ⟨_, (pss_cons (ps_setLc (i := 3) (own := [("ray", 4)]) rfl nd_cut rfl rfl (sw_true rfl rfl rfl rfl) (piL (⟨rfl, rfl, rfl, rfl, rfl⟩ : At _ T) (pv 0)) (blkOk_by (own := [("ray", 4)]) (N := N_cut) (sc := defScope s_cut) (by decide +kernel)) (fun _ _ _ _ _ => (pg_name (i := 4) nd_cut rfl (.inl rfl) (.inr rfl))) (fun _ _ _ _ _ => pts_nil) (fun _ _ _ _ _ => (pc cproduct (⟨rfl, rfl, rfl, rfl, rfl⟩ : At _ T) hr (by decide) rfl (pa_cons (pv 1) (pa_cons (pfld (⟨rfl, rfl, rfl, rfl, rfl⟩ : At _ T) (pv 4)) pa_nil)))))
      (pss_cons (ps_set (i := 5) nd_cut rfl (Or.inl rfl) (pe_lst pa_nil))
      (pss_cons (ps_for PassesOwn.never rfl (piZ (⟨rfl, rfl, rfl, rfl, rfl⟩ : At _ T) rfl F.zip (pa_cons (pv 0) (pa_cons (pv 3) pa_nil))) (pgT 2 (⟨rfl, rfl, rfl, rfl, rfl⟩ : At _ T) rfl (pgs_cons (pg_name (i := 4) nd_cut rfl (.inl rfl) (.inl rfl)) (pgs_cons (pg_name (i := 6) nd_cut rfl (.inl rfl) (.inl rfl)) pgs_nil))) (pss_one (ps_if (pt_cmpR op_gt (pv 6) pe_int (nomark _)) (pss_one (ps_expr (pmAppend (⟨rfl, rfl, rfl, rfl, rfl⟩ : At _ T) (pv 5) (pa_cons (pv 4) pa_nil)))) (pss_one (ps_if (pt_cmpR op_eq (pv 6) pe_int (nomark _)) (pss_one (ps_expr (pmAppend (⟨rfl, rfl, rfl, rfl, rfl⟩ : At _ T) (pv 5) (pa_cons (pmk cRay (⟨rfl, rfl, rfl, rfl, rfl⟩ : At _ T) hr (by decide) rfl (pa_cons (pfld (⟨rfl, rfl, rfl, rfl, rfl⟩ : At _ T) (pv 4)) (pa_cons (pe_op op_cat (pfld (⟨rfl, rfl, rfl, rfl, rfl⟩ : At _ T) (pv 4)) (pe_lst (pa_cons (pv 2) pa_nil))) pa_nil))) pa_nil)))) pss_nil)))))
      (pss_cons (ps_for PassesOwn.never rfl (piE (⟨rfl, rfl, rfl, rfl, rfl⟩ : At _ T) rfl F.enumerate (pa_cons (pv 3) pa_nil)) (pgT 2 (⟨rfl, rfl, rfl, rfl, rfl⟩ : At _ T) rfl (pgs_cons (pg_name (i := 7) nd_cut rfl (.inl rfl) (.inl rfl)) (pgs_cons (pg_name (i := 8) nd_cut rfl (.inl rfl) (.inl rfl)) pgs_nil))) (pss_one (ps_for PassesOwn.never rfl (piE (⟨rfl, rfl, rfl, rfl, rfl⟩ : At _ T) rfl F.enumerate (pa_cons (pv 3) pa_nil)) (pgT 2 (⟨rfl, rfl, rfl, rfl, rfl⟩ : At _ T) rfl (pgs_cons (pg_name (i := 9) nd_cut rfl (.inl rfl) (.inl rfl)) (pgs_cons (pg_name (i := 10) nd_cut rfl (.inl rfl) (.inl rfl)) pgs_nil))) (pss_one (ps_if (PW.pt (pw_and (pt_cmpR op_gt (pv 8) pe_int (nomark _)) (pw_and (pt_cmpR op_lt (pv 10) pe_int (nomark _)) (pw_and1 (pt_val (pc c_are_neighbours (⟨rfl, rfl, rfl, rfl, rfl⟩ : At _ T) hr (by decide) rfl (pa_cons (pv 0) (pa_cons (pv 7) (pa_cons (pv 9) pa_nil))))))))) (pss_one (ps_expr (pmAppend (⟨rfl, rfl, rfl, rfl, rfl⟩ : At _ T) (pv 5) (pa_cons (pc c_between (⟨rfl, rfl, rfl, rfl, rfl⟩ : At _ T) hr (by decide) rfl (pa_cons (ixL (⟨rfl, rfl, rfl, rfl, rfl⟩ : At _ T) (pv 0) (pv 7)) (pa_cons (pv 8) (pa_cons (ixL (⟨rfl, rfl, rfl, rfl, rfl⟩ : At _ T) (pv 0) (pv 9)) (pa_cons (pv 10) (pa_cons (pv 2) pa_nil)))))) pa_nil)))) pss_nil)))))
      (pss_one (ps_ret (pv 5))))))), ?_⟩
  rintro ⟨R, a, num⟩ Fm D eb hok hR -
  have hok : CutOk a num R := hok
  have hlR : R.length ≤ 9000000 := hok.hl
  show Tr Fm [some (sh (rL (qRay CR)) R), some (sh (rL qI) a), some (sh qI num), none, none, none, none, none, none, none, none] _ _
  refine tr_asgNE (r := qI) (xs := R.map fun p => Rf.Dd.dt a p.1) ((en_lc (b := fun _ => true) (q := fun (p : Ry) (z : Int) => z = Rf.Dd.dt a p.1) (ei_list (p := (· = R)) (ev_var rfl) tg_name) (by decide) ?_ (fun _ _ _ _ => et_yes) ?_).imp ?_) ?_
  · rintro _ rfl; omega
  · rintro _ e p hp _
    obtain rfl := e.symm
    exact ev_call2D (ev_var rfl) (ev_told (x := p) F (ev_var rfl)) (a, p.1) rfl ⟨hok.la, hok.sa, fun y hy => Nat.lt_of_lt_of_le ((hok.ra p hp).2.2 y hy) (Nat.pow_le_pow_right (by decide) (by decide))⟩ fun _ h => h
  · rintro z ⟨_, rfl, h⟩
    rw [filter_true'] at h
    exact paired_eq (f := fun p : Ry => Rf.Dd.dt a p.1) h
  refine tr_share (i := 3) rfl (tr_asgNE (r := qRay CR) (xs := []) en_nil ?_)
  refine tr_forS (S := List Ry) (ei_zip (r1 := qRay CR) (r2 := qI) (p1 := (· = R)) (p2 := (· = R.map fun p => Rf.Dd.dt a p.1)) (ev_var rfl) (ev_var rfl) tg_pair) (fun _ i l => l = (R.take i).flatMap (Rf.Dd.kept a num) ∧ l.length ≤ i) (fun l => [some (sh (rL (qRay CR)) R), some (sh (rL qI) a), some (sh qI num), some (sh (rL qI) (R.map fun p => Rf.Dd.dt a p.1)), none, some (ownL (qRay CR) l), none, none, none, none, none]) ?_ ?_ ?_
  · rintro xs -
    exact ⟨[], ⟨rfl, Nat.le_refl _⟩, (by repeat (first | exact lss_nil | apply lss_some | apply lss_none))⟩
  · rintro xs ⟨_, _, e1, e2, hxs⟩ B i c hc l ⟨hl, hll⟩
    obtain rfl := e1.symm; obtain rfl := e2.symm
    rw [hxs] at hc
    rw [List.getElem?_zip_eq_some] at hc
    obtain ⟨hc1, hc2⟩ := hc
    rw [List.getElem?_map, hc1] at hc2
    obtain ⟨p, h⟩ := c
    have hc1 : R[i]? = some p := hc1
    have hc2 : some (Rf.Dd.dt a p.1) = some h := hc2
    obtain rfl := (Option.some.inj hc2).symm
    have hi : i < R.length := (List.getElem?_eq_some_iff.mp hc1).1
    have step : (R.take (i + 1)).flatMap (Rf.Dd.kept a num) = l ++ Rf.Dd.kept a num p := by
      rw [take_succ' hc1, List.flatMap_append, ← hl]; simp
    have sl : (l ++ Rf.Dd.kept a num p).length ≤ i + 1 := by
      rw [List.length_append]
      have := kept_len (a := a) (num := num) (p := p)
      omega
    show Tr _ [some (sh (rL (qRay CR)) R), some (sh (rL qI) a), some (sh qI num), some (sh (rL qI) (R.map fun p => Rf.Dd.dt a p.1)), some (sh (qRay CR) p), some (ownL (qRay CR) l), some (sh qI (Rf.Dd.dt a p.1)), none, none, none, none] _ _
    refine tr_last (tr_ifD (b := decide (0 < Rf.Dd.dt a p.1)) (et_test (ev_b0D (ev_var rfl) ev_int)) (fun hb => ?_) (fun hb => ?_))
    · have hb := of_decide_eq_true hb
      have ek : Rf.Dd.kept a num p = [p] := by unfold Rf.Dd.kept; rw [if_pos hb]
      rw [ek] at step sl
      refine tr_appendD (i := 5) (x := p) rfl (ev_var rfl) (by omega) ?_
      exact tr_nx rfl (l ++ [p]) ⟨step.symm, sl⟩ (by repeat (first | exact lss_nil | apply lss_some | apply lss_none))
    · have hb := of_decide_eq_false hb
      refine tr_ifD (b := decide (Rf.Dd.dt a p.1 = 0)) (et_test (ev_eqID (ev_var rfl) ev_int)) (fun h0 => ?_) (fun h0 => tr_nil ?_)
      · have h0 := of_decide_eq_true h0
        have ek : Rf.Dd.kept a num p = [(p.1, p.2 ++ [num])] := by unfold Rf.Dd.kept; rw [if_neg hb, if_pos h0]
        rw [ek] at step sl
        refine tr_appendD (i := 5) (x := (p.1, p.2 ++ [num])) rfl (ev_ray (l := p.1) (m := p.2 ++ [num]) (ev_told (x := p) F (ev_var rfl)) ((en_cat (p := (· = p.2)) (p2 := (· = [num])) (ev_tight (x := p) F (ev_var rfl)) (fun _ _ => ((en_lst1 (ev_var rfl)).imp ?_).ev) ?_).imp ?_).ev) (by omega) ?_
        · rintro _ ⟨x, rfl, rfl⟩; rfl
        · rintro _ _ rfl rfl
          have := (hok.ra p (List.mem_of_getElem? hc1)).2.1
          simp; omega
        · rintro _ ⟨_, _, rfl, rfl, rfl⟩; rfl
        exact tr_nx rfl (l ++ [(p.1, p.2 ++ [num])]) ⟨step.symm, sl⟩ (by repeat (first | exact lss_nil | apply lss_some | apply lss_none))
      · have h0 := of_decide_eq_false h0
        have ek : Rf.Dd.kept a num p = [] := by unfold Rf.Dd.kept; rw [if_neg hb, if_neg h0]
        rw [ek, List.append_nil] at step
        exact tr_nx rfl l ⟨step.symm, by omega⟩ (by repeat (first | exact lss_nil | apply lss_some | apply lss_none))
  rintro xs ⟨_, _, e1, e2, hxs⟩ l ⟨hl, -⟩
  obtain rfl := e1.symm; obtain rfl := e2.symm
  rw [hxs, List.length_zip, List.length_map, Nat.min_self, List.take_length] at hl
  have hcut : (R.flatMap (Rf.Dd.kept a num)).length + ((List.range R.length).flatMap fun i => (List.range R.length).flatMap fun j => Rf.Dd.pairOf a num R i j).length < 16777216 := by
    have := hok.hc
    unfold Rf.Dd.cut Rf.Dd.pairs at this
    rwa [List.length_append] at this
  have enR : ((List.range (R.map fun p => Rf.Dd.dt a p.1).length).map Int.ofNat).zip (R.map fun p => Rf.Dd.dt a p.1) = ((List.range (R.map fun p => Rf.Dd.dt a p.1).length).map Int.ofNat).zip (R.map fun p => Rf.Dd.dt a p.1) := rfl
  refine tr_forS (S := List Ry) (ei_enum (p := (· = R.map fun p => Rf.Dd.dt a p.1)) (ev_var rfl) tg_pair) (fun _ i l => l = R.flatMap (Rf.Dd.kept a num) ++ (List.range i).flatMap fun i => (List.range R.length).flatMap fun j => Rf.Dd.pairOf a num R i j) (fun l => [some (sh (rL (qRay CR)) R), some (sh (rL qI) a), some (sh qI num), some (sh (rL qI) (R.map fun p => Rf.Dd.dt a p.1)), none, some (ownL (qRay CR) l), none, none, none, none, none]) ?_ ?_ ?_
  · rintro xs -
    exact ⟨l, by rw [hl]; simp, (by repeat (first | exact lss_nil | apply lss_some | apply lss_none))⟩
  · rintro xs ⟨_, e1, hxs⟩ B i c hc l hl
    obtain rfl := e1.symm
    rw [hxs] at hc
    obtain ⟨hi, h, hh, rfl⟩ := enum_at hc
    rw [List.length_map] at hi
    rw [List.getElem?_map, (Rf.Dd.rAt_mem hi).1] at hh
    have hh : some (Rf.Dd.dt a (rAt R i).1) = some h := hh
    obtain rfl := (Option.some.inj hh).symm
    show Tr _ [some (sh (rL (qRay CR)) R), some (sh (rL qI) a), some (sh qI num), some (sh (rL qI) (R.map fun p => Rf.Dd.dt a p.1)), none, some (ownL (qRay CR) l), none, some (sh qI (i : Int)), some (sh qI (Rf.Dd.dt a (rAt R i).1)), none, none] _ _
    refine tr_last (tr_forS (S := List Ry) (ei_enum (p := (· = R.map fun p => Rf.Dd.dt a p.1)) (ev_var rfl) tg_pair) (fun _ j l2 => l2 = l ++ (List.range j).flatMap fun j => Rf.Dd.pairOf a num R i j) (fun l2 => [some (sh (rL (qRay CR)) R), some (sh (rL qI) a), some (sh qI num), some (sh (rL qI) (R.map fun p => Rf.Dd.dt a p.1)), none, some (ownL (qRay CR) l2), none, some (sh qI (i : Int)), some (sh qI (Rf.Dd.dt a (rAt R i).1)), none, none]) ?_ ?_ ?_)
    · rintro xs -
      exact ⟨l, by simp, (by repeat (first | exact lss_nil | apply lss_some | apply lss_none))⟩
    · rintro xs ⟨_, e1, hxs⟩ B j c hc l2 hl2
      obtain rfl := e1.symm
      rw [hxs] at hc
      obtain ⟨hj, h, hh, rfl⟩ := enum_at hc
      rw [List.length_map] at hj
      rw [List.getElem?_map, (Rf.Dd.rAt_mem hj).1] at hh
      have hh : some (Rf.Dd.dt a (rAt R j).1) = some h := hh
      obtain rfl := (Option.some.inj hh).symm
      have hlen : l2.length < 16777216 := by
        have q1 := flat_pre (fun j => Rf.Dd.pairOf a num R i j) (Nat.le_of_lt hj)
        have q2 := flat_pre (fun i => (List.range R.length).flatMap fun j => Rf.Dd.pairOf a num R i j) (show i + 1 ≤ R.length by omega)
        rw [flat_succ, List.length_append] at q2
        rw [hl2, hl, List.length_append, List.length_append]
        omega
      have step : l ++ ((List.range (j + 1)).flatMap fun j => Rf.Dd.pairOf a num R i j) = l2 ++ Rf.Dd.pairOf a num R i j := by
        rw [flat_succ, ← List.append_assoc, ← hl2]
      show Tr _ [some (sh (rL (qRay CR)) R), some (sh (rL qI) a), some (sh qI num), some (sh (rL qI) (R.map fun p => Rf.Dd.dt a p.1)), none, some (ownL (qRay CR) l2), none, some (sh qI (i : Int)), some (sh qI (Rf.Dd.dt a (rAt R i).1)), some (sh qI (j : Int)), some (sh qI (Rf.Dd.dt a (rAt R j).1))] _ _
      refine tr_last (tr_ifD (b := (decide (0 < Rf.Dd.dt a (rAt R i).1) && (decide (Rf.Dd.dt a (rAt R j).1 < 0) && adj R i j))) (et_andD (et_test (ev_b0D (ev_var rfl) ev_int)) fun _ => et_andD (et_test (ev_b0D (ev_var rfl) ev_int)) fun _ => et_B (ev_call3D (ev_var rfl) (ev_var rfl) (ev_var rfl) (R, i, j) rfl ⟨hi, hj, fun p hp => Nat.le_trans (hok.ra p hp).2.1 (by decide)⟩ fun _ h => h)) (fun hb => ?_) (fun hb => tr_nil ?_))
      · simp only [Bool.and_eq_true, decide_eq_true_eq] at hb
        obtain ⟨b1, b2, b3⟩ := hb
        have ek : Rf.Dd.pairOf a num R i j = [betw (rAt R i) (Rf.Dd.dt a (rAt R i).1) (rAt R j) (Rf.Dd.dt a (rAt R j).1) num] := by unfold Rf.Dd.pairOf; rw [if_pos ⟨b1, b2, b3⟩]
        rw [ek] at step
        have mi := (Rf.Dd.rAt_mem hi).2
        have mj := (Rf.Dd.rAt_mem hj).2
        refine tr_appendD (i := 5) (x := betw (rAt R i) (Rf.Dd.dt a (rAt R i).1) (rAt R j) (Rf.Dd.dt a (rAt R j).1) num) rfl (ev_call5D (ev_rAt (ev_var rfl) (ev_var rfl) hi) (ev_var rfl) (ev_rAt (ev_var rfl) (ev_var rfl) hj) (ev_var rfl) (ev_var rfl) (rAt R i, Rf.Dd.dt a (rAt R i).1, rAt R j, Rf.Dd.dt a (rAt R j).1, num) rfl ⟨(hok.ra _ mi).1, hok.ha _ mi, hok.ha _ mj, (hok.ra _ mi).2.2, (hok.ra _ mj).2.2, Nat.le_trans (hok.ra _ mi).2.1 (by decide)⟩ fun _ h => h) hlen ?_
        exact tr_nx rfl (l2 ++ [betw (rAt R i) (Rf.Dd.dt a (rAt R i).1) (rAt R j) (Rf.Dd.dt a (rAt R j).1) num]) step.symm (by repeat (first | exact lss_nil | apply lss_some | apply lss_none))
      · have ek : Rf.Dd.pairOf a num R i j = [] := by
          unfold Rf.Dd.pairOf
          rw [if_neg]
          rintro ⟨b1, b2, b3⟩
          simp [b1, b2, b3] at hb
        rw [ek, List.append_nil] at step
        exact tr_nx rfl l2 step.symm (by repeat (first | exact lss_nil | apply lss_some | apply lss_none))
    · rintro xs ⟨_, e1, hxs⟩ l2 hl2
      obtain rfl := e1.symm
      have e : xs.length = R.length := by rw [hxs, enum_len, List.length_map]
      refine tr_nx rfl l2 ?_ (by repeat (first | exact lss_nil | apply lss_some | apply lss_none))
      rw [hl2, e, hl, flat_succ, List.append_assoc]
  · rintro xs ⟨_, e1, hxs⟩ l hl
    obtain rfl := e1.symm
    have e : xs.length = R.length := by rw [hxs, enum_len, List.length_map]
    refine tr_share (i := 5) rfl (tr_retD (ev_var rfl) hR ?_)
    rw [hl, e]
    rfl
end
end Rf
/-! WkK: rays_of, inner_costs. -/
namespace Rf
open PySem PySem.Spec PyProof.Rows L2
open Rf.Dd (Ry gcdV redV common adj betw mixV kept pairOf pairs cut rAt firstR firstT unitV raysF raysFrom)
theorem raysFrom_snoc (n : Nat) (a : List Int) : ∀ (l : List (List Int)) (t : Nat) (R : List Ry), raysFrom n t (l ++ [a]) R = cut a ((n + (t + l.length) : Nat) : Int) (raysFrom n t l R)
  | [], t, R => rfl
  | b :: l, t, R => by
    show raysFrom n (t + 1) (l ++ [a]) (cut b ((n + t : Nat) : Int) R) = _
    rw [raysFrom_snoc n a l (t + 1)]
    have e : n + (t + 1 + l.length) = n + (t + (b :: l).length) := by rw [List.length_cons]; omega
    rw [e]
    rfl
theorem tight_kept {a : List Int} {num : Int} {p q : Ry} {T : Nat} (hp : p.2.length ≤ T) (h : q ∈ kept a num p) : q.2.length ≤ T + 1 := by
  rcases Rf.Dd.mem_kept h with ⟨_, rfl⟩ | ⟨_, rfl⟩
  · omega
  · rw [List.length_append]; simp; omega
theorem tight_cut {a : List Int} {num : Int} {R : List Ry} {T : Nat} (hR : ∀ p ∈ R, p.2.length ≤ T) : ∀ q ∈ cut a num R, q.2.length ≤ T + 1 := by
  intro q hq
  rcases Rf.Dd.mem_cut hq with ⟨p, hp, h⟩ | ⟨i, j, hi, hj, h⟩
  · exact tight_kept (hR p hp) h
  · obtain ⟨_, _, _, e⟩ := Rf.Dd.mem_pairOf h
    rw [e]
    unfold Rf.Dd.betw
    rw [List.length_append]
    have h1 : (common (rAt R i) (rAt R j)).length ≤ (rAt R i).2.length := List.length_filter_le _ _
    have h2 := hR _ (Rf.Dd.rAt_mem hi).2
    simp; omega
theorem tight_from (n : Nat) : ∀ (l : List (List Int)) (t : Nat) (R : List Ry) (T : Nat), (∀ p ∈ R, p.2.length ≤ T) → ∀ q ∈ raysFrom n t l R, q.2.length ≤ T + l.length
  | [], t, R, T, h, q, hq => h q hq
  | a :: l, t, R, T, h, q, hq => by
    have := tight_from n l (t + 1) (cut a ((n + t : Nat) : Int) R) (T + 1) (tight_cut h) q hq
    rw [List.length_cons]; omega
theorem tight_rays (n : Nat) (l : List (List Int)) : ∀ q ∈ raysF n l, q.2.length ≤ n + l.length := tight_from n l 0 (firstR n) n (by
  intro p hp
  unfold Rf.Dd.firstR at hp
  obtain ⟨i, _, rfl⟩ := List.mem_map.mp hp
  show (firstT n i).length ≤ n
  unfold Rf.Dd.firstT
  rw [List.length_map]
  have := List.length_filter_le (fun k => !decide (k = i)) (List.range n)
  rwa [List.length_range] at this)
/-- the inequalities that the code meets -/
structure InOk (n : Nat) (l : List (List Int)) : Prop where
  hn : n ≤ 4
  hl : l.length ≤ 200
  ha : ∀ a ∈ l, a.length = n ∧ ∀ v ∈ a, v.natAbs ≤ 12
theorem InOk.sub {n : Nat} {l : List (List Int)} (h : InOk n l) (i : Nat) : InOk n (l.take i) := ⟨h.hn, by have := h.hl; rw [List.length_take]; omega, fun a ha => h.ha a (List.mem_of_mem_take ha)⟩
theorem BB_lt {n : Nat} (h : n ≤ 4) : Rf.Dd.BB n 12 < 2 ^ 100 := by
  have : n = 0 ∨ n = 1 ∨ n = 2 ∨ n = 3 ∨ n = 4 := by omega
  rcases this with rfl | rfl | rfl | rfl | rfl <;> decide +kernel
theorem InOk.all {n : Nat} {l : List (List Int)} (h : InOk n l) : ∀ b ∈ Rf.Dd.unitsA n ++ l, b.length = n ∧ ∀ v ∈ b, v.natAbs ≤ 12 := by
  intro b hb
  rcases List.mem_append.mp hb with hb | hb
  · unfold Rf.Dd.unitsA at hb
    obtain ⟨i, _, rfl⟩ := List.mem_map.mp hb
    refine ⟨Rf.Dd.unit_len n i, fun v hv => ?_⟩
    unfold Rf.Dd.unitV at hv
    obtain ⟨k, _, rfl⟩ := List.mem_map.mp hv
    split <;> decide
  · exact h.ha b hb
theorem InOk.len {n : Nat} {l : List (List Int)} (h : InOk n l) : (raysF n l).length ≤ (n + l.length + 1) * ((n + l.length + 1) * (n + l.length + 1)) := by
  have := Rf.Dd.ray_count (Rf.Dd.dd_all n l) (fun b hb => (h.all b hb).1) h.hn
  have e : (Rf.Dd.unitsA n ++ l).length = n + l.length := by rw [List.length_append]; unfold Rf.Dd.unitsA; simp
  rw [e] at this
  exact this
theorem cube_le {a b : Nat} (h : a ≤ b) : a * (a * a) ≤ b * (b * b) := Nat.mul_le_mul h (Nat.mul_le_mul h h)
theorem InOk.len9 {n : Nat} {l : List (List Int)} (h : InOk n l) : (raysF n l).length ≤ 9000000 := by
  have h1 := h.len
  have h2 := h.hn
  have h3 := h.hl
  have h4 := cube_le (show n + l.length + 1 ≤ 205 by omega)
  omega
theorem InOk.small {n : Nat} {l : List (List Int)} (h : InOk n l) : ∀ p ∈ raysF n l, p.1.length = n ∧ ∀ v ∈ p.1, v.natAbs < 2 ^ 100 := fun p hp =>
  ⟨(Rf.Dd.dd_all n l).lr p hp, fun v hv => Nat.lt_of_le_of_lt (Rf.Dd.ray_small (Rf.Dd.dd_all n l) h.all p hp v hv) (BB_lt h.hn)⟩
theorem pow_up {x : Nat} (e : Nat) (h : x < 2 ^ 110) (he : 110 ≤ e) : x < 2 ^ e := Nat.lt_of_lt_of_le h (Nat.pow_le_pow_right (by decide) he)
theorem InOk.cutOk {n : Nat} {l : List (List Int)} {a : List Int} (h : InOk n (l ++ [a])) : CutOk a ((n + (0 + l.length) : Nat) : Int) (raysF n l) := by
  have h0 : InOk n l := ⟨h.hn, by have := h.hl; rw [List.length_append] at this; simp at this; omega, fun b hb => h.ha b (List.mem_append_left _ hb)⟩
  have h9 := h0.len9
  have hn := h.hn
  obtain ⟨la, sa⟩ := h.ha a (List.mem_append_right _ List.mem_cons_self)
  refine ⟨by omega, fun x hx => pow_up 4000 (Nat.lt_of_le_of_lt (sa x hx) (by decide)) (by decide), fun p hp => ?_, fun p hp => ?_, h9, ?_⟩
  · obtain ⟨h1, h2⟩ := h0.small p hp
    have h3 := tight_rays n l p hp
    have h4 := h0.hl
    exact ⟨by omega, by omega, fun v hv => pow_up 3990 (Nat.lt_trans (h2 v hv) (by decide)) (by decide)⟩
  · obtain ⟨h1, h2⟩ := h0.small p hp
    have h3 := Rf.Dd.dt_bound (K := 12) (B := 2 ^ 100) a p.1 sa fun v hv => Nat.le_of_lt (h2 v hv)
    refine pow_up 3990 ?_ (by decide)
    rw [la] at h3
    have h4 : n * (12 * 2 ^ 100) ≤ 4 * (12 * 2 ^ 100) := Nat.mul_le_mul_right _ hn
    exact Nat.lt_of_le_of_lt (Nat.le_trans h3 h4) (by decide)
  · have e : cut a ((n + (0 + l.length) : Nat) : Int) (raysF n l) = raysF n (l ++ [a]) := (raysFrom_snoc n a l 0 (firstR n)).symm
    rw [e]
    have := h.len9
    omega
section
variable {T : Tx} {CS CR aS : Addr} {β : Option Addr} {Γ : EnvA} {te ta : TE} {K : PySem.W.Frag} {pr : Ry → Prop}
abbrev s_rays_of : Stmt := topS 45
abbrev N_rays_of : List Str := ["size", "inequalities", "rays", "at", "inequality", "ray"]
theorem sc_rays_of : FnScope N_rays_of ["size", "inequalities"] (defScope s_rays_of) := ⟨rfl, rfl, rfl, by decide +kernel, rfl, by decide +kernel, by decide +kernel⟩
theorem nd_rays_of : N_rays_of.Nodup := by decide +kernel
theorem bd_rays_of (kV doc pm : Value) (an : Option Addr) (cdv ct : Value) (us : List Value) (hl : us.length = List.length (α := Str) ["size", "inequalities"]) : bindArgs (PySem.W.fnOf "rays_of" "rays_of" (defArgs s_rays_of) (defBody s_rays_of) (defScope s_rays_of) .none kV doc pm an cdv ct) ⟨us, []⟩ = pure (List.zip (α := Str) ["size", "inequalities"] us) := match us, hl with | [_, _], _ => rfl

abbrev spRaysOf : Sp := spOf (ι := Nat × List (List Int)) (fun _ => none) (fun g => [sh qI (g.1 : Int), sh (rL (rL qI)) g.2]) (fun g => InOk g.1 g.2) (rL (rL qI)) (fun g z => z.Perm ((raysF g.1 g.2).map (·.1)))
theorem ok_rays_of (F : TF T CS CR aS) (c_first_rays : Cl T 3 "_first_rays" (spFirst CR)) (c_cut : Cl T 4 "_cut" (spCut CR)) (D : Dn T "rays_of" s_rays_of) : Cl T 5 "rays_of" spRaysOf := by
  refine cl_def D sc_rays_of bd_rays_of (fun _ => rfl) fun f cdv A outer s H E hr => ⟨_, (pss_cons (ps_set (i := 2) nd_rays_of rfl (Or.inl rfl) (pc c_first_rays (⟨rfl, rfl, rfl, rfl, rfl⟩ : At _ T) hr (by decide) rfl (pa_cons (pv 0) pa_nil)))
      (pss_cons (ps_for PassesOwn.never rfl (piE (⟨rfl, rfl, rfl, rfl, rfl⟩ : At _ T) rfl F.enumerate (pa_cons (pv 1) pa_nil)) (pgT 2 (⟨rfl, rfl, rfl, rfl, rfl⟩ : At _ T) rfl (pgs_cons (pg_name (i := 3) nd_rays_of rfl (.inl rfl) (.inl rfl)) (pgs_cons (pg_name (i := 4) nd_rays_of rfl (.inl rfl) (.inl rfl)) pgs_nil))) (pss_one (ps_set (i := 2) nd_rays_of rfl (Or.inl rfl) (pc c_cut (⟨rfl, rfl, rfl, rfl, rfl⟩ : At _ T) hr (by decide) rfl (pa_cons (pv 2) (pa_cons (pv 4) (pa_cons (pe_op op_add (pv 0) (pv 3)) pa_nil)))))))
      (pss_one (ps_ret (pb (⟨rfl, rfl, rfl, rfl, rfl⟩ : At _ T) (cSortL (⟨rfl, rfl, rfl, rfl, rfl⟩ : At _ T) hr) rfl F.sorted boot_sorted (pa_cons (pe_lc (own := [("ray", 5)]) rfl nd_rays_of (piL (⟨rfl, rfl, rfl, rfl, rfl⟩ : At _ T) (pv 2)) (blkOk_by (own := [("ray", 5)]) (N := N_rays_of) (sc := defScope s_rays_of) (by decide +kernel)) (fun _ _ _ _ _ => (pg_name (i := 5) nd_rays_of rfl (.inl rfl) (.inr rfl))) (fun _ _ _ _ _ => pts_nil) (fun _ _ _ _ _ => (pfld (⟨rfl, rfl, rfl, rfl, rfl⟩ : At _ T) (pv 5)))) pa_nil)))))), ?_⟩
  rintro ⟨n, l⟩ Fm D eb hok hR -
  have hok : InOk n l := hok
  have hn := hok.hn
  show Tr Fm [some (sh qI (n : Int)), some (sh (rL (rL qI)) l), none, none, none, none] _ _
  refine tr_asgD (r := rL (qRay CR)) (x := firstR n) (ev_call1D (ev_var rfl) n rfl (show n ≤ 1000 by omega) fun _ h => h) ?_
  refine tr_forS (S := List Ry) (ei_enum (p := (· = l)) (ev_var rfl) tg_pair) (fun _ i R => R = raysF n (l.take i)) (fun R => [some (sh qI (n : Int)), some (sh (rL (rL qI)) l), some (sh (rL (qRay CR)) R), none, none, none]) ?_ ?_ ?_
  · rintro xs -
    exact ⟨firstR n, rfl, (by repeat (first | exact lss_nil | apply lss_some | apply lss_none))⟩
  · rintro xs ⟨_, e1, hxs⟩ B i c hc R hS
    obtain rfl := e1.symm
    rw [hxs] at hc
    obtain ⟨hi, a, ha, rfl⟩ := enum_at hc
    have ln : (l.take i).length = i := by rw [List.length_take]; omega
    have et : l.take (i + 1) = l.take i ++ [a] := take_succ' ha
    have hc := (by have := hok.sub (i + 1); rw [et] at this; exact this : InOk n (l.take i ++ [a])).cutOk
    rw [ln] at hc
    show Tr _ [some (sh qI (n : Int)), some (sh (rL (rL qI)) l), some (sh (rL (qRay CR)) R), some (sh qI (i : Int)), some (sh (rL qI) a), none] _ _
    refine tr_last (tr_asgD (r := rL (qRay CR)) (x := raysF n (l.take (i + 1))) (ev_call3D (x3 := ((n + (0 + i) : Nat) : Int)) (ev_var rfl) (ev_var rfl) ((ev_i0D (ev_var rfl) (ev_var rfl)).imp ?_) (R, a, ((n + (0 + i) : Nat) : Int)) rfl (by rw [hS]; exact hc) ?_) ?_)
    · intro x hx
      rw [hx]
      show (n : Int) + (i : Int) = _
      omega
    · intro x hx
      rw [hx]
      show cut a _ R = _
      rw [et, hS]
      have := raysFrom_snoc n a (l.take i) 0 (firstR n)
      rw [ln] at this
      exact this.symm
    · exact tr_nx rfl (raysF n (l.take (i + 1))) rfl (by repeat (first | exact lss_nil | apply lss_some | apply lss_none))
  · rintro xs ⟨_, e1, hxs⟩ R hS
    obtain rfl := e1.symm
    have e : xs.length = l.length := by rw [hxs, enum_len]
    rw [e, List.take_length] at hS
    have h9 := hok.len9
    have hRl : R.length ≤ 9000000 := by rw [hS]; exact h9
    refine tr_ret ((en_sortLL (p := (· = R.map (·.1))) ((en_lc (b := fun _ => true) (q := fun (p : Ry) (z : List Int) => z = p.1) (ei_list (p := (· = R)) (ev_var rfl) tg_name) (by decide) ?_ (fun _ _ _ _ => et_yes) fun _ _ p _ _ => ev_told (x := p) F (ev_var rfl)).imp ?_).ev ?_).ev) hR ?_
    · rintro _ rfl; omega
    · rintro z ⟨_, rfl, h⟩
      rw [filter_true'] at h
      exact paired_eq (f := fun p : Ry => p.1) h
    · rintro _ rfl; rw [List.length_map]; omega
    · rintro z ⟨_, rfl, h⟩
      rw [hS] at h
      exact h
/-- the costs inside -/
def sumV (n : Nat) (z : List (List Int)) : List Int := z.foldl (zw (· + ·)) (List.replicate n 0)
def innF (n : Nat) (z : List (List Int)) : Option (List Int) := if z = [] then none else if (sumV n z).any (fun v => decide (v ≤ 0)) then none else some (redV (sumV n z))
structure ZOk (n : Nat) (z : List (List Int)) : Prop where
  hn : n ≤ 4
  hl : z.length ≤ 16777216
  hz : ∀ r ∈ z, r.length = n ∧ ∀ v ∈ r, v.natAbs < 2 ^ 100
theorem sum_ok {n : Nat} : ∀ (z : List (List Int)) (w : List Int) (B : Nat), (∀ r ∈ z, r.length = n ∧ ∀ v ∈ r, v.natAbs < 2 ^ 100) → w.length = n → (∀ v ∈ w, v.natAbs ≤ B) → (z.foldl (zw (· + ·)) w).length = n ∧ ∀ v ∈ z.foldl (zw (· + ·)) w, v.natAbs ≤ B + z.length * 2 ^ 100
  | [], w, B, _, hw, hv => ⟨hw, fun v h => by have := hv v h; simpa using this⟩
  | r :: z, w, B, h, hw, hv => by
    obtain ⟨h1, h2⟩ := h r List.mem_cons_self
    rw [List.foldl_cons]
    have := sum_ok z (zw (· + ·) w r) (B + 2 ^ 100) (fun r hr => h r (List.mem_cons_of_mem _ hr)) (by unfold zw; rw [List.length_zipWith]; omega) (fun v hx => by
      rw [← zw_zip] at hx
      obtain ⟨x, hm, ex⟩ := List.mem_map.mp hx
      rw [← ex]
      have a1 := hv _ (List.of_mem_zip hm).1
      have a2 := h2 _ (List.of_mem_zip hm).2
      show (x.1 + x.2).natAbs ≤ _
      omega)
    refine ⟨this.1, fun v hx => ?_⟩
    have := this.2 v hx
    rw [List.length_cons, Nat.succ_mul]
    omega
abbrev s_inner_costs : Stmt := topS 50
abbrev N_inner_costs : List Str := ["rays", "whole", "number", "ray"]
theorem sc_inner_costs : FnScope N_inner_costs ["rays"] (defScope s_inner_costs) := ⟨rfl, rfl, rfl, by decide +kernel, rfl, by decide +kernel, by decide +kernel⟩
theorem nd_inner_costs : N_inner_costs.Nodup := by decide +kernel
theorem bd_inner_costs (kV doc pm : Value) (an : Option Addr) (cdv ct : Value) (us : List Value) (hl : us.length = List.length (α := Str) ["rays"]) : bindArgs (PySem.W.fnOf "inner_costs" "inner_costs" (defArgs s_inner_costs) (defBody s_inner_costs) (defScope s_inner_costs) .none kV doc pm an cdv ct) ⟨us, []⟩ = pure (List.zip (α := Str) ["rays"] us) := match us, hl with | [_], _ => rfl

abbrev spInner : Sp := spOf (ι := Nat × List (List Int)) (fun _ => none) (fun g => [sh (rL (rL qI)) g.2]) (fun g => ZOk g.1 g.2) (qO (rL qI)) (fun g z => z = innF g.1 g.2)
theorem ok_inner (F : TF T CS CR aS) (cplus : Cl T 1 "plus" spPlus) (creduced : Cl T 1 "reduced" spReduced) (D : Dn T "inner_costs" s_inner_costs) : Cl T 2 "inner_costs" spInner := by
  refine cl_def D sc_inner_costs bd_inner_costs (fun _ => rfl) fun f cdv A outer s H E hr => ⟨_, (pss_cons (ps_if (pt_not (ptru (⟨rfl, rfl, rfl, rfl, rfl⟩ : At _ T) (pv 0))) (pss_one (ps_ret pe_non)) pss_nil)
      (pss_cons (ps_setLc (i := 1) (own := [("number", 2)]) rfl nd_inner_costs rfl rfl (sw_true rfl rfl rfl rfl) (piL (⟨rfl, rfl, rfl, rfl, rfl⟩ : At _ T) (ixL (⟨rfl, rfl, rfl, rfl, rfl⟩ : At _ T) (pv 0) pe_int)) (blkOk_by (own := [("number", 2)]) (N := N_inner_costs) (sc := defScope s_inner_costs) (by decide +kernel)) (fun _ _ _ _ _ => (pg_name (i := 2) nd_inner_costs rfl (.inl rfl) (.inr rfl))) (fun _ _ _ _ _ => pts_nil) (fun _ _ _ _ _ => pe_int))
      (pss_cons (ps_for PassesOwn.never rfl (piL (⟨rfl, rfl, rfl, rfl, rfl⟩ : At _ T) (pv 0)) (pg_name (i := 3) nd_inner_costs rfl (.inl rfl) (.inl rfl)) (pss_one (ps_set (i := 1) nd_inner_costs rfl (Or.inl rfl) (pc cplus (⟨rfl, rfl, rfl, rfl, rfl⟩ : At _ T) hr (by decide) rfl (pa_cons (pv 1) (pa_cons (pv 3) pa_nil))))))
      (pss_cons (ps_if (pt_val (pb (⟨rfl, rfl, rfl, rfl, rfl⟩ : At _ T) (cAny (⟨rfl, rfl, rfl, rfl, rfl⟩ : At _ T) rfl) rfl F.any boot_any (pa_cons (pe_lc (own := [("number", 2)]) rfl nd_inner_costs (piL (⟨rfl, rfl, rfl, rfl, rfl⟩ : At _ T) (pv 1)) (blkOk_by (own := [("number", 2)]) (N := N_inner_costs) (sc := defScope s_inner_costs) (by decide +kernel)) (fun _ _ _ _ _ => (pg_name (i := 2) nd_inner_costs rfl (.inl rfl) (.inr rfl))) (fun _ _ _ _ _ => pts_nil) (fun _ _ _ _ _ => (pe_cmpR op_le (pv 2) pe_int (nomark _)))) pa_nil))) (pss_one (ps_ret pe_non)) pss_nil)
      (pss_one (ps_ret (pc creduced (⟨rfl, rfl, rfl, rfl, rfl⟩ : At _ T) hr (by decide) rfl (pa_cons (pv 1) pa_nil)))))))), ?_⟩
  rintro ⟨n, z⟩ Fm D eb hok hR -
  have hok : ZOk n z := hok
  have hn := hok.hn
  have hl := hok.hl
  have hz := hok.hz
  show Tr Fm [some (sh (rL (rL qI)) z), none, none, none] _ _
  refine tr_ifD (b := !!z.isEmpty) (et_notD (et_truL (p := (· = z)) (ev_var rfl) (by rintro _ rfl; rfl))) (fun hb => ?_) (fun hb => tr_nil ?_)
  · refine tr_retS ev_none hR fun x e => ?_
    rw [e]
    show none = innF n z
    have : z = [] := by cases z with | nil => rfl | cons _ _ => simp at hb
    unfold innF
    rw [if_pos this]
  have hz0 : z ≠ [] := by intro e; rw [e] at hb; simp at hb
  obtain ⟨r0, z', ez⟩ : ∃ r0 z', z = r0 :: z' := by cases z with | nil => exact (hz0 rfl).elim | cons a b => exact ⟨a, b, rfl⟩
  have hr0 : r0.length = n := (hz r0 (by rw [ez]; exact List.mem_cons_self)).1
  refine tr_asgNE (r := qI) (xs := List.replicate n 0) ((en_lc (b := fun _ => true) (q := fun (_ : Int) (z : Int) => z = 0) (ei_list (p := (· = r0)) (ev_ixL (p := (· = z)) (ev_var rfl) (fun _ _ => ev_int) ?_) tg_name) (by decide) ?_ (fun _ _ _ _ => et_yes) fun _ _ p _ _ => ev_int).imp ?_) ?_
  · rintro _ _ rfl rfl
    exact ⟨r0, by omega, by rw [ez]; rfl, rfl⟩
  · rintro _ rfl; omega
  · rintro y ⟨_, rfl, h⟩
    rw [filter_true'] at h
    rw [paired_eq (f := fun _ : Int => (0 : Int)) h]
    rw [← hr0]
    exact List.map_const' ..
  refine tr_share (i := 1) rfl ?_
  refine tr_forS (S := List Int) (ei_list (p := (· = z)) (ev_var rfl) tg_name) (fun _ i w => w = sumV n (z.take i)) (fun w => [some (sh (rL (rL qI)) z), some (sh (rL qI) w), none, none]) ?_ ?_ ?_
  · rintro xs -
    exact ⟨_, rfl, (by repeat (first | exact lss_nil | apply lss_some | apply lss_none))⟩
  · intro xs hxs B i r hr w hw
    rw [hxs] at hr
    show Tr _ [some (sh (rL (rL qI)) z), some (sh (rL qI) w), none, some (sh (rL qI) r)] _ _
    have hwl : w.length = n := by
      rw [hw]
      exact (sum_ok (z.take i) (List.replicate n 0) 0 (fun r hr => hz r (List.mem_of_mem_take hr)) (by simp) (by intro v hv; rw [(List.mem_replicate.mp hv).2]; decide)).1
    refine tr_last (tr_asgD (r := rL qI) (x := zw (· + ·) w r) (ev_call2D (ev_var rfl) (ev_var rfl) (w, r) rfl (show w.length ≤ 1000 by omega) fun _ h => h) ?_)
    exact tr_nx rfl (zw (· + ·) w r) (by rw [take_succ' hr]; unfold sumV; rw [List.foldl_append, hw]; rfl) (by repeat (first | exact lss_nil | apply lss_some | apply lss_none))
  · intro xs hxs w hw
    rw [hxs, List.take_length] at hw
    have hs := sum_ok z (List.replicate n 0) 0 hz (by simp) (by intro v hv; rw [(List.mem_replicate.mp hv).2]; decide)
    rw [Nat.zero_add] at hs
    have hs' : w.length = n ∧ ∀ v ∈ w, v.natAbs ≤ z.length * 2 ^ 100 := by rw [hw]; exact hs
    refine tr_ifD (b := w.any (fun v => decide (v ≤ 0))) (et_B (ev_any (p := (· = w.map fun v => decide (v ≤ 0))) ((en_lc (b := fun _ => true) (q := fun (v : Int) (z : Bool) => z = decide (v ≤ 0)) (ei_list (p := (· = w)) (ev_var rfl) tg_name) (by decide) ?_ (fun _ _ _ _ => et_yes) fun _ _ v _ _ => ev_b0D (ev_var rfl) ev_int).ev.imp ?_) ?_)) (fun hb => ?_) (fun hb => tr_nil ?_)
    · rintro _ rfl; omega
    · rintro y ⟨_, rfl, h⟩
      rw [filter_true'] at h
      exact paired_eq (f := fun v : Int => decide (v ≤ 0)) h
    · rintro _ rfl
      rw [List.any_map]; rfl
    · refine tr_retS ev_none hR fun x e => ?_
      rw [e]
      show none = innF n z
      unfold innF
      rw [if_neg hz0, if_pos (by rw [← hw]; exact hb)]
    · refine tr_ret (ev_some rL_ne (ev_call1D (p := (· = redV w)) (ev_var rfl) w rfl ⟨by omega, fun v hv => ?_⟩ fun _ h => h)) hR ?_
      · have h1 := hs'.2 v hv
        have h2 : z.length * 2 ^ 100 ≤ 16777216 * 2 ^ 100 := Nat.mul_le_mul_right _ hl
        exact Nat.lt_of_lt_of_le (Nat.lt_of_le_of_lt (Nat.le_trans h1 h2) (show _ < 2 ^ 125 by decide)) (Nat.pow_le_pow_right (by decide) (by decide))
      · rintro x ⟨y, rfl, rfl⟩
        show _ = innF n z
        unfold innF
        rw [if_neg hz0, if_neg (by rw [← hw, hb]; decide), hw]
end
end Rf
/-! Mk: what inner_costs answers about a cone. -/
namespace Rf
open Rf.Dd
theorem dt_add (b x y : List Int) (h : x.length = y.length) : dt b (zw (· + ·) x y) = dt b x + dt b y := by
  have e : zw (· + ·) x y = lc 1 x 1 y := by unfold zw lc; simp only [Int.one_mul]
  rw [e, dt_lc _ _ _ _ _ h]; omega
theorem dt_fold (b : List Int) {n : Nat} : ∀ (z : List (List Int)) (w : List Int), (∀ r ∈ z, r.length = n) → w.length = n → dt b (z.foldl (zw (· + ·)) w) = dt b w + (z.map (dt b)).sum
  | [], w, _, _ => by simp
  | r :: z, w, h, hw => by
    have hr := h r List.mem_cons_self
    rw [List.foldl_cons, dt_fold b z _ (fun r hr => h r (List.mem_cons_of_mem _ hr)) (by unfold zw; rw [List.length_zipWith]; omega), dt_add _ _ _ (by omega), List.map_cons, List.sum_cons]
    omega
theorem dt_sumV (b : List Int) {n : Nat} {z : List (List Int)} (h : ∀ r ∈ z, r.length = n) : dt b (sumV n z) = (z.map (dt b)).sum := by
  unfold sumV
  rw [dt_fold b z _ h (by simp)]
  have : dt b (List.replicate n 0) = 0 := dt_zeros b n
  omega
theorem sumV_len {n : Nat} {z : List (List Int)} (h : ∀ r ∈ z, r.length = n) : (sumV n z).length = n := by
  have gen : ∀ (z : List (List Int)) (w : List Int), (∀ r ∈ z, r.length = n) → w.length = n → (z.foldl (zw (· + ·)) w).length = n := by
    intro z
    induction z with
    | nil => intro w _ hw; exact hw
    | cons r z ih =>
      intro w h hw
      have hr := h r List.mem_cons_self
      exact ih _ (fun r hr => h r (List.mem_cons_of_mem _ hr)) (by unfold zw; rw [List.length_zipWith]; omega)
  exact gen z _ h (by simp)
theorem nn_sum {l : List Int} (h : ∀ v ∈ l, 0 ≤ v) : 0 ≤ l.sum := by
  induction l with
  | nil => exact Int.le_refl _
  | cons a l ih =>
    rw [List.sum_cons]
    have := h a List.mem_cons_self
    have := ih fun v hv => h v (List.mem_cons_of_mem _ hv)
    omega
section
variable {n : Nat} {l : List (List Int)} {z : List (List Int)}
theorem of_perm (hz : z.Perm ((raysF n l).map (·.1))) : ∀ r ∈ z, ∃ p ∈ raysF n l, p.1 = r := fun r hr => by
  have := hz.mem_iff.mp hr
  obtain ⟨p, hp, e⟩ := List.mem_map.mp this
  exact ⟨p, hp, e⟩
theorem z_len (hz : z.Perm ((raysF n l).map (·.1))) : ∀ r ∈ z, r.length = n := fun r hr => by
  obtain ⟨p, hp, e⟩ := of_perm hz r hr
  rw [← e]; exact (dd_all n l).lr p hp
theorem inn_sound (hz : z.Perm ((raysF n l).map (·.1))) {v : List Int} (h : innF n z = some v) : v.length = n ∧ (∀ x ∈ v, 0 < x) ∧ ∀ a ∈ l, 0 ≤ dt a v := by
  unfold innF at h
  split at h
  · cases h
  · split at h
    · cases h
    · rename_i h0 h1
      have hv : redV (sumV n z) = v := Option.some.inj h
      subst hv
      have pos : ∀ x ∈ sumV n z, 0 < x := fun x hx => by
        apply Decidable.byContradiction
        intro hn
        exact h1 (List.any_eq_true.mpr ⟨x, hx, by simp; omega⟩)
      have cone : ∀ a ∈ l, 0 ≤ dt a (sumV n z) := fun a ha => by
        rw [dt_sumV a (z_len hz)]
        refine nn_sum fun v hv => ?_
        obtain ⟨r, hr, rfl⟩ := List.mem_map.mp hv
        obtain ⟨p, hp, e⟩ := of_perm hz r hr
        rw [← e]
        exact (dd_all n l).cone p hp a (List.mem_append_right _ ha)
      refine ⟨by rw [redV_len, sumV_len (z_len hz)], ?_, ?_⟩
      · by_cases hh : ∃ v ∈ sumV n z, v ≠ 0
        · have hg := gcdV_pos hh
          intro x hx
          have h3 : (gcdV (sumV n z) : Int) * x ∈ sm (gcdV (sumV n z)) (redV (sumV n z)) := List.mem_map.mpr ⟨x, hx, rfl⟩
          rw [redV_sm hh] at h3
          exact (mul_pos_iff' (by omega)).mp (pos _ h3)
        · have : redV (sumV n z) = sumV n z := by
            have : sumV n z = [] := by
              cases e : sumV n z with
              | nil => rfl
              | cons a b =>
                rw [e] at hh pos
                have := pos a List.mem_cons_self
                exact (hh ⟨a, List.mem_cons_self, by omega⟩).elim
            rw [this]; rfl
          rw [this]; exact pos
      · intro a ha
        by_cases hh : ∃ v ∈ sumV n z, v ≠ 0
        · have hg := gcdV_pos hh
          have h3 := cone a ha
          rw [dt_red hh a] at h3
          exact (mul_nonneg_iff' (by omega)).mp h3
        · have : sumV n z = [] := by
            cases e : sumV n z with
            | nil => rfl
            | cons a b =>
              rw [e] at hh pos
              have := pos a List.mem_cons_self
              exact (hh ⟨a, List.mem_cons_self, by omega⟩).elim
          have h2 := cone a ha
          rw [this] at h2 ⊢
          exact h2
theorem inn_comp (hz : z.Perm ((raysF n l).map (·.1))) (hn : 0 < n) {c : List Int} (hc : c.length = n) (pos : ∀ x ∈ c, 0 < x) (cone : ∀ a ∈ l, 0 ≤ dt a c) : innF n z ≠ none := by
  have d := dd_all n l
  have at_c : ∀ i, i < n → 0 < dt (unitV n i) c := fun i hi => by
    rw [dt_unit n i c hi hc, List.getD_eq_getElem?_getD, List.getElem?_eq_getElem (by omega)]
    exact pos _ (List.getElem_mem _)
  have inc : InC n (unitsA n ++ l) c := ⟨hc, fun b hb => by
    rcases List.mem_append.mp hb with hb | hb
    · unfold unitsA at hb
      obtain ⟨i, hi, rfl⟩ := List.mem_map.mp hb
      exact Int.le_of_lt (at_c i (List.mem_range.mp hi))
    · exact cone b hb⟩
  obtain ⟨N, L, hN, hL, e⟩ := d.gen c inc
  have hLl : ∀ q ∈ L, q.2.length = n := fun q hq => by
    obtain ⟨_, s, hs, es⟩ := hL q hq
    rw [← es]; exact d.lr s hs
  have key : ∀ i, i < n → 0 < dt (unitV n i) (sumV n z) := fun i hi => by
    have h1 : 0 < dt (unitV n i) (sm N c) := by rw [dt_sm]; exact Int.mul_pos hN (at_c i hi)
    rw [e, dt_comb _ hLl] at h1
    obtain ⟨q, hq, hq1⟩ := sum_pos_ex h1
    obtain ⟨q0, p, hp, ep⟩ := hL q hq
    have h2 := (mul_pos_iff' q0).mp hq1
    rw [dt_sumV _ (z_len hz)]
    have hm : q.2 ∈ z := hz.mem_iff.mpr (List.mem_map.mpr ⟨p, hp, ep⟩)
    apply Decidable.byContradiction
    intro hno
    have := sum_zero (f := dt (unitV n i)) (l := z) (fun r hr => by
      obtain ⟨p, hp, er⟩ := of_perm hz r hr
      rw [← er]
      exact d.cone p hp _ (d.hu i hi)) (by omega) q.2 hm
    omega
  unfold innF
  have hz0 : z ≠ [] := fun e => by
    have := key 0 hn
    rw [dt_sumV _ (z_len hz), e] at this
    simp at this
  rw [if_neg hz0, if_neg]
  · simp
  · intro hany
    obtain ⟨v, hv, hv0⟩ := List.any_eq_true.mp hany
    obtain ⟨i, hi, ei⟩ := List.mem_iff_getElem.mp hv
    have hl := sumV_len (z_len hz)
    have := key i (by omega)
    rw [dt_unit n i _ (by omega) hl, List.getD_eq_getElem?_getD, List.getElem?_eq_getElem hi] at this
    have this : 0 < (sumV n z)[i] := this
    rw [ei] at this
    have := of_decide_eq_true hv0
    omega
end
end Rf
/-! Mb: counts are small; limits. -/
namespace Rf
open Rf.Dd
theorem set_ent {l : List Int} {i : Nat} {b v : Int} (h : ∀ v ∈ l, 0 ≤ v ∧ v ≤ 1) (hb : 0 ≤ b ∧ b ≤ 1) (hv : v ∈ l.set i b) : 0 ≤ v ∧ v ≤ 1 := by
  rcases List.mem_or_eq_of_mem_set hv with h1 | h1
  · exact h v h1
  · rw [h1]; exact hb
theorem rep_ent {n : Nat} : ∀ v ∈ List.replicate n (0 : Int), 0 ≤ v ∧ v ≤ 1 := fun v hv => by rw [(List.mem_replicate.mp hv).2]; decide
theorem added_ent (s : Sc) (kind before : Int) (a b : Nat) : ∀ v ∈ addedF s kind before a b, 0 ≤ v ∧ v ≤ 1 := by
  intro v hv
  unfold addedF at hv
  split at hv
  · split at hv
    · exact set_ent rep_ent (by decide) hv
    · exact rep_ent v hv
  · refine set_ent ?_ (by decide) hv
    split
    · exact fun v hv => set_ent rep_ent (by decide) hv
    · exact rep_ent
theorem cntR_ent (sc : Sc) : ∀ (k : Int) (l : List (Nat × Nat)), ∀ v ∈ cntR sc k l, 0 ≤ v ∧ v ≤ (l.length : Int)
  | k, [], v, hv => by
    unfold cntR at hv
    rw [(List.mem_replicate.mp hv).2]; simp
  | k, c :: l, v, hv => by
    unfold cntR at hv
    rw [← zw_zip] at hv
    obtain ⟨x, hx, rfl⟩ := List.mem_map.mp hv
    have h1 := cntR_ent sc _ l _ (List.of_mem_zip hx).1
    have h2 := added_ent sc _ _ _ _ _ (List.of_mem_zip hx).2
    rw [List.length_cons]
    show 0 ≤ x.1 + x.2 ∧ _
    omega
theorem al_rows : ∀ (x y : List Nat) (al : List Nat × List Nat), al ∈ Al x y → al.1.length = al.2.length ∧ al.1.length ≤ x.length + y.length
  | [], [], al, h => by
    unfold Al at h
    rw [List.mem_singleton] at h
    subst h; simp
  | a :: x, [], al, h => by
    unfold Al at h
    obtain ⟨r, hr, rfl⟩ := List.mem_map.mp h
    have := al_rows x [] r hr
    simp at this ⊢; omega
  | [], b :: y, al, h => by
    unfold Al at h
    obtain ⟨r, hr, rfl⟩ := List.mem_map.mp h
    have := al_rows [] y r hr
    simp at this ⊢; omega
  | a :: x, b :: y, al, h => by
    unfold Al at h
    rcases List.mem_append.mp h with h | h
    · obtain ⟨r, hr, rfl⟩ := List.mem_map.mp h
      have := al_rows x y r hr
      simp at this ⊢; omega
    · rcases List.mem_append.mp h with h | h
      · obtain ⟨r, hr, rfl⟩ := List.mem_map.mp h
        have := al_rows x (b :: y) r hr
        simp at this ⊢; omega
      · obtain ⟨r, hr, rfl⟩ := List.mem_map.mp h
        have := al_rows (a :: x) y r hr
        simp at this ⊢; omega
termination_by x y => x.length + y.length
theorem bare_cons {a : Nat} {l : List Nat} (h : a ≠ 45) : bareF (a :: l) = a :: bareF l := by unfold bareF; rw [List.filter_cons, if_pos (by simp [h])]
theorem bare_gap {l : List Nat} : bareF (45 :: l) = bareF l := by unfold bareF; rw [List.filter_cons, if_neg (by simp)]
theorem okW_cons {a : Nat} {x : List Nat} (h : okW (a :: x)) : a ≠ 45 ∧ okW x := ⟨fun e => h (by rw [e]; exact List.mem_cons_self), fun z => h (List.mem_cons_of_mem _ z)⟩
theorem al_bare : ∀ (x y : List Nat) (al : List Nat × List Nat), okW x → okW y → al ∈ Al x y → bareF al.1 = x ∧ bareF al.2 = y
  | [], [], al, _, _, h => by
    unfold Al at h
    rw [List.mem_singleton] at h
    subst h; exact ⟨rfl, rfl⟩
  | a :: x, [], al, ox, oy, h => by
    unfold Al at h
    obtain ⟨r, hr, rfl⟩ := List.mem_map.mp h
    obtain ⟨na, nx⟩ : a ≠ 45 ∧ okW x := okW_cons ox
    obtain ⟨h1, h2⟩ := al_bare x [] r nx oy hr
    exact ⟨by rw [bare_cons na, h1], by rw [bare_gap, h2]⟩
  | [], b :: y, al, ox, oy, h => by
    unfold Al at h
    obtain ⟨r, hr, rfl⟩ := List.mem_map.mp h
    obtain ⟨nb, ny⟩ : b ≠ 45 ∧ okW y := okW_cons oy
    obtain ⟨h1, h2⟩ := al_bare [] y r ox ny hr
    exact ⟨by rw [bare_gap, h1], by rw [bare_cons nb, h2]⟩
  | a :: x, b :: y, al, ox, oy, h => by
    unfold Al at h
    obtain ⟨na, nx⟩ : a ≠ 45 ∧ okW x := okW_cons ox
    obtain ⟨nb, ny⟩ : b ≠ 45 ∧ okW y := okW_cons oy
    rcases List.mem_append.mp h with h | h
    · obtain ⟨r, hr, rfl⟩ := List.mem_map.mp h
      obtain ⟨h1, h2⟩ := al_bare x y r nx ny hr
      exact ⟨by rw [bare_cons na, h1], by rw [bare_cons nb, h2]⟩
    · rcases List.mem_append.mp h with h | h
      · obtain ⟨r, hr, rfl⟩ := List.mem_map.mp h
        obtain ⟨h1, h2⟩ := al_bare x (b :: y) r nx oy hr
        exact ⟨by rw [bare_cons na, h1], by rw [bare_gap, h2]⟩
      · obtain ⟨r, hr, rfl⟩ := List.mem_map.mp h
        obtain ⟨h1, h2⟩ := al_bare (a :: x) y r ox ny hr
        exact ⟨by rw [bare_gap, h1], by rw [bare_cons nb, h2]⟩
termination_by x y => x.length + y.length
/-- a minimal vector of counts -/
def Mn (sc : Sc) (x y : List Nat) (o : List Int) : Prop := o ∈ Suf sc x y 0 0 0 ∧ ∀ o' ∈ Suf sc x y 0 0 0, belowF o' o = false
theorem suf_ent {sc : Sc} {x y : List Nat} (hx : x.length ≤ 3) (hy : y.length ≤ 3) {o : List Int} (h : o ∈ Suf sc x y 0 0 0) : o.length = sc.size.toNat ∧ ∀ v ∈ o, 0 ≤ v ∧ v ≤ 6 := by
  unfold Suf at h
  obtain ⟨al, hal, rfl⟩ := List.mem_map.mp h
  refine ⟨cntR_len _ _ _, fun v hv => ?_⟩
  have h1 := cntR_ent sc _ _ v hv
  have h2 := al_rows _ _ al hal
  rw [List.length_zip] at h1
  simp only [List.drop_zero] at h2
  omega
theorem cnt_ent {sc : Sc} {e : List Nat × List Nat} (h : e.1.length ≤ 6) : (countsF sc e).length = sc.size.toNat ∧ ∀ v ∈ countsF sc e, 0 ≤ v ∧ v ≤ 6 := by
  rw [counts_cnt]
  refine ⟨cntR_len _ _ _, fun v hv => ?_⟩
  have h1 := cntR_ent sc _ _ v hv
  rw [List.length_zip] at h1
  omega
theorem diff_ent {n : Nat} {o c : List Int} (h1 : o.length = n ∧ ∀ v ∈ o, 0 ≤ v ∧ v ≤ 6) (h2 : c.length = n ∧ ∀ v ∈ c, 0 ≤ v ∧ v ≤ 6) : (zw (· - ·) o c).length = n ∧ ∀ v ∈ zw (· - ·) o c, v.natAbs ≤ 12 := by
  refine ⟨by unfold zw; rw [List.length_zipWith, h1.1, h2.1, Nat.min_self], fun v hv => ?_⟩
  rw [← zw_zip] at hv
  obtain ⟨x, hx, rfl⟩ := List.mem_map.mp hv
  have a1 := h1.2 _ (List.of_mem_zip hx).1
  have a2 := h2.2 _ (List.of_mem_zip hx).2
  show (x.1 - x.2).natAbs ≤ 12
  omega
structure LimC (sc : Sc) (x y : List Nat) (c : List Int) (z : List (List Int)) : Prop where
  mem : ∀ a, a ∈ z ↔ ∃ o, Mn sc x y o ∧ a = zw (· - ·) o c
  len : z.length ≤ 63
structure LimE (sc : Sc) (exs : List (List Nat × List Nat)) (z : List (List Int)) : Prop where
  mem : ∀ a, a ∈ z ↔ ∃ e ∈ exs, ∃ o, Mn sc (bareF e.1) (bareF e.2) o ∧ a = zw (· - ·) o (countsF sc e)
  len : z.length ≤ 63 * exs.length
def okE (sc : Sc) (e : List Nat × List Nat) : Prop := e.1.length ≤ 6 ∧ e.2.length ≤ 6 ∧ okXY (sc, bareF e.1, bareF e.2)
def okG (sc : Sc) (exs : List (List Nat × List Nat)) : Prop := exs.length ≤ 2 ∧ (∀ e ∈ exs, okE sc e) ∧ sc.size ≤ 4
def InCone (sc : Sc) (exs : List (List Nat × List Nat)) (c : List Int) : Prop := c.length = sc.size.toNat ∧ (∀ v ∈ c, 0 < v) ∧ ∀ e ∈ exs, ∀ o, Mn sc (bareF e.1) (bareF e.2) o → 0 ≤ dt (zw (· - ·) o (countsF sc e)) c
structure ExC (sc : Sc) (exs : List (List Nat × List Nat)) (v : Option (List Int)) : Prop where
  yes : ∀ c, v = some c → InCone sc exs c ∧ ∀ x ∈ c, x.natAbs < 2 ^ 200
  no : v = none → ∀ c, ¬ InCone sc exs c
def Fits (sc : Sc) (exs : List (List Nat × List Nat)) (x y : List Nat) (c : List Int) : Prop := Mn sc x y c ∧ ∃ w, InCone sc exs w ∧ ∀ o, Mn sc x y o → 0 ≤ dt (zw (· - ·) o c) w
structure BestF (sc : Sc) (exs : List (List Nat × List Nat)) (x y : List Nat) (z : List (List Int)) : Prop where
  mem : ∀ c, c ∈ z ↔ Fits sc exs x y c
  len : z.length ≤ 63
theorem LimE.inOk {sc : Sc} {exs : List (List Nat × List Nat)} {z : List (List Int)} (h : LimE sc exs z) (g : okG sc exs) : InOk sc.size.toNat z := by
  obtain ⟨g1, g2, g3⟩ := g
  have hl := h.len
  refine ⟨by omega, by omega, fun a ha => ?_⟩
  obtain ⟨e, he, o, ho, rfl⟩ := (h.mem a).mp ha
  obtain ⟨e1, e2, e3⟩ := g2 e he
  exact diff_ent (suf_ent e3.2.1 e3.2.2.1 ho.1) (cnt_ent e1)
theorem two_inOk {sc : Sc} {exs : List (List Nat × List Nat)} {x y : List Nat} {c : List Int} {z z2 : List (List Int)} (h : LimE sc exs z) (g : okG sc exs) (ok : okXY (sc, x, y)) (h2 : LimC sc x y c z2) (hc : c ∈ Suf sc x y 0 0 0) : InOk sc.size.toNat (z ++ z2) := by
  have h1 := h.inOk g
  obtain ⟨g1, g2, g3⟩ := g
  have hl := h.len
  have hl2 := h2.len
  refine ⟨h1.hn, by rw [List.length_append]; omega, fun a ha => ?_⟩
  rcases List.mem_append.mp ha with ha | ha
  · exact h1.ha a ha
  · obtain ⟨o, ho, rfl⟩ := (h2.mem a).mp ha
    exact diff_ent (suf_ent ok.2.1 ok.2.2.1 ho.1) (suf_ent ok.2.1 ok.2.2.1 hc)
theorem InOk.zOk {n : Nat} {l z : List (List Int)} (h : InOk n l) (hz : z.Perm ((raysF n l).map (·.1))) : ZOk n z := by
  refine ⟨h.hn, ?_, fun r hr => ?_⟩
  · rw [hz.length_eq, List.length_map]
    have := h.len9
    omega
  · obtain ⟨p, hp, e⟩ := of_perm hz r hr
    rw [← e]
    exact h.small p hp
theorem red_ent {l : List Int} : ∀ v ∈ redV l, ∃ u ∈ l, v.natAbs ≤ u.natAbs := by
  intro v hv
  unfold redV at hv
  split at hv
  · exact ⟨v, hv, Nat.le_refl _⟩
  · obtain ⟨u, hu, rfl⟩ := List.mem_map.mp hv
    refine ⟨u, hu, ?_⟩
    exact Int.natAbs_ediv_le_natAbs u _
theorem inn_small {n : Nat} {z : List (List Int)} (h : ZOk n z) {v : List Int} (hv : innF n z = some v) : ∀ x ∈ v, x.natAbs < 2 ^ 200 := by
  unfold innF at hv
  split at hv
  · cases hv
  · split at hv
    · cases hv
    · have hv : redV (sumV n z) = v := Option.some.inj hv
      intro x hx
      rw [← hv] at hx
      obtain ⟨u, hu, hle⟩ := red_ent x hx
      have hs := (sum_ok z (List.replicate n 0) 0 h.hz (by simp) (by intro v hv; rw [(List.mem_replicate.mp hv).2]; decide)).2 u hu
      have h2 : z.length * 2 ^ 100 ≤ 16777216 * 2 ^ 100 := Nat.mul_le_mul_right _ h.hl
      have h3 : (16777216 : Nat) * 2 ^ 100 < 2 ^ 200 := by decide
      omega
theorem exC_of {sc : Sc} {exs : List (List Nat × List Nat)} {l z : List (List Int)} (h : LimE sc exs l) (g : okG sc exs) (hz : z.Perm ((raysF sc.size.toNat l).map (·.1))) : ExC sc exs (innF sc.size.toNat z) := by
  have hs := size_range sc
  constructor
  · intro c hc
    obtain ⟨h1, h2, h3⟩ := inn_sound hz hc
    exact ⟨⟨h1, h2, fun e he o ho => h3 _ ((h.mem _).mpr ⟨e, he, o, ho, rfl⟩)⟩, inn_small ((h.inOk g).zOk hz) hc⟩
  · rintro hn c ⟨h1, h2, h3⟩
    refine inn_comp hz (by omega) h1 h2 (fun a ha => ?_) hn
    obtain ⟨e, he, o, ho, rfl⟩ := (h.mem a).mp ha
    exact h3 e he o ho
theorem fits_of {sc : Sc} {exs : List (List Nat × List Nat)} {x y : List Nat} {c : List Int} {l l2 z : List (List Int)} (h : LimE sc exs l) (h2 : LimC sc x y c l2) (hc : Mn sc x y c) (hz : z.Perm ((raysF sc.size.toNat (l ++ l2)).map (·.1))) : (innF sc.size.toNat z).isSome = true ↔ Fits sc exs x y c := by
  have hs := size_range sc
  constructor
  · intro hi
    obtain ⟨v, hv⟩ := Option.isSome_iff_exists.mp hi
    obtain ⟨q1, q2, q3⟩ := inn_sound hz hv
    exact ⟨hc, v, ⟨q1, q2, fun e he o ho => q3 _ (List.mem_append_left _ ((h.mem _).mpr ⟨e, he, o, ho, rfl⟩))⟩, fun o ho => q3 _ (List.mem_append_right _ ((h2.mem _).mpr ⟨o, ho, rfl⟩))⟩
  · rintro ⟨_, w, ⟨q1, q2, q3⟩, q4⟩
    have := inn_comp hz (by omega) q1 q2 fun a ha => by
      rcases List.mem_append.mp ha with ha | ha
      · obtain ⟨e, he, o, ho, rfl⟩ := (h.mem a).mp ha
        exact q3 e he o ho
      · obtain ⟨o, ho, rfl⟩ := (h2.mem a).mp ha
        exact q4 o ho
    exact Option.isSome_iff_ne_none.mpr this
end Rf
/-! WkI: limits, explanation, foretold. -/
namespace Rf
open PySem PySem.Spec PyProof.Rows L2
open Rf.Dd (Ry raysF)
section
variable {T : Tx} {CS CR aS : Addr} {β : Option Addr} {Γ : EnvA} {te ta : TE} {K : PySem.W.Frag}
abbrev s_limits_of_counts : Stmt := topS 47
abbrev N_limits_of_counts : List Str := ["scheme", "first", "second", "counts", "other"]
theorem sc_limits_of_counts : FnScope N_limits_of_counts ["scheme", "first", "second", "counts"] (defScope s_limits_of_counts) := ⟨rfl, rfl, rfl, by decide +kernel, rfl, by decide +kernel, by decide +kernel⟩
theorem nd_limits_of_counts : N_limits_of_counts.Nodup := by decide +kernel
theorem bd_limits_of_counts (kV doc pm : Value) (an : Option Addr) (cdv ct : Value) (us : List Value) (hl : us.length = List.length (α := Str) ["scheme", "first", "second", "counts"]) : bindArgs (PySem.W.fnOf "limits_of_counts" "limits_of_counts" (defArgs s_limits_of_counts) (defBody s_limits_of_counts) (defScope s_limits_of_counts) .none kV doc pm an cdv ct) ⟨us, []⟩ = pure (List.zip (α := Str) ["scheme", "first", "second", "counts"] us) := match us, hl with | [_, _, _, _], _ => rfl

abbrev spLimC (CS : Addr) : Sp := spOf (ι := (Sc × List Nat × List Nat) × List Int) (fun _ => none) (fun g => [sh (qSc CS) g.1.1, sh qW g.1.2.1, sh qW g.1.2.2, sh (rL qI) g.2]) (fun g => okXY g.1) (rL (rL qI)) (fun g z => LimC g.1.1 g.1.2.1 g.1.2.2 g.2 z)
theorem ok_limits_of_counts (F : TF T CS CR aS) (cminimal_counts : Cl T 6 "minimal_counts" (spMinimal CS)) (cminus : Cl T 1 "minus" spMinus) (D : Dn T "limits_of_counts" s_limits_of_counts) : Cl T 7 "limits_of_counts" (spLimC CS) := by
  refine cl_def D sc_limits_of_counts bd_limits_of_counts (fun _ => rfl) fun f cdv A outer s H E hr => ⟨_, (pss_one (ps_ret (pe_lc (own := [("other", 4)]) rfl nd_limits_of_counts (piL (⟨rfl, rfl, rfl, rfl, rfl⟩ : At _ T) (pc cminimal_counts (⟨rfl, rfl, rfl, rfl, rfl⟩ : At _ T) hr (by decide) rfl (pa_cons (pv 0) (pa_cons (pv 1) (pa_cons (pv 2) pa_nil))))) (blkOk_by (own := [("other", 4)]) (N := N_limits_of_counts) (sc := defScope s_limits_of_counts) (by decide +kernel)) (fun _ _ _ _ _ => (pg_name (i := 4) nd_limits_of_counts rfl (.inl rfl) (.inr rfl))) (fun _ _ _ _ _ => pts_nil) (fun _ _ _ _ _ => (pc cminus (⟨rfl, rfl, rfl, rfl, rfl⟩ : At _ T) hr (by decide) rfl (pa_cons (pv 4) (pa_cons (pv 3) pa_nil))))))), ?_⟩
  rintro ⟨⟨sc, x, y⟩, c⟩ Fm D eb hok hR -
  have hok : okXY (sc, x, y) := hok
  show Tr Fm [some (sh (qSc CS) sc), some (sh qW x), some (sh qW y), some (sh (rL qI) c), none] _ _
  refine tr_ret ((en_lc (b := fun _ => true) (q := fun (o z : List Int) => z = zw (· - ·) o c) (ei_list (p := fun z => MinF sc x y z) (ev_call3D (ev_var rfl) (ev_var rfl) (ev_var rfl) (sc, x, y) rfl hok fun _ h => h) tg_name) (by decide) ?_ (fun _ _ _ _ => et_yes) ?_).ev) hR ?_
  · intro xs hx
    have := hx.len
    omega
  · intro xs hx o ho _
    have h1 := suf_mem_len ((hx.mem o).mp ho).1
    have h2 := size_range sc
    exact ev_call2D (ev_var rfl) (ev_var rfl) (o, c) rfl (show o.length ≤ 1000 by omega) fun _ h => h
  · rintro z ⟨xs, hx, h⟩
    rw [filter_true'] at h
    have e := paired_eq (f := fun o : List Int => zw (· - ·) o c) h
    refine ⟨fun a => ?_, by rw [e, List.length_map]; exact hx.len⟩
    rw [e, List.mem_map]
    constructor
    · rintro ⟨o, ho, rfl⟩; exact ⟨o, (hx.mem o).mp ho, rfl⟩
    · rintro ⟨o, ho, rfl⟩; exact ⟨o, (hx.mem o).mpr ho, rfl⟩
abbrev s_limits_of_examples : Stmt := topS 48
abbrev N_limits_of_examples : List Str := ["scheme", "examples", "limits", "alignment", "first", "second"]
theorem sc_limits_of_examples : FnScope N_limits_of_examples ["scheme", "examples"] (defScope s_limits_of_examples) := ⟨rfl, rfl, rfl, by decide +kernel, rfl, by decide +kernel, by decide +kernel⟩
theorem nd_limits_of_examples : N_limits_of_examples.Nodup := by decide +kernel
theorem bd_limits_of_examples (kV doc pm : Value) (an : Option Addr) (cdv ct : Value) (us : List Value) (hl : us.length = List.length (α := Str) ["scheme", "examples"]) : bindArgs (PySem.W.fnOf "limits_of_examples" "limits_of_examples" (defArgs s_limits_of_examples) (defBody s_limits_of_examples) (defScope s_limits_of_examples) .none kV doc pm an cdv ct) ⟨us, []⟩ = pure (List.zip (α := Str) ["scheme", "examples"] us) := match us, hl with | [_, _], _ => rfl

abbrev spLimE (CS : Addr) : Sp := spOf (ι := Sc × List (List Nat × List Nat)) (fun _ => none) (fun g => [sh (qSc CS) g.1, sh (rL qAl) g.2]) (fun g => okG g.1 g.2) (rL (rL qI)) (fun g z => LimE g.1 g.2 z)
theorem limE_snoc {sc : Sc} {exs : List (List Nat × List Nat)} {e : List Nat × List Nat} {l l2 : List (List Int)} (h : LimE sc exs l) (h2 : LimC sc (bareF e.1) (bareF e.2) (countsF sc e) l2) : LimE sc (exs ++ [e]) (l ++ l2) := by
  constructor
  · intro a
    rw [List.mem_append, h.mem, h2.mem]
    constructor
    · rintro (⟨e', he, o, ho, rfl⟩ | ⟨o, ho, rfl⟩)
      · exact ⟨e', List.mem_append_left _ he, o, ho, rfl⟩
      · exact ⟨e, List.mem_append_right _ List.mem_cons_self, o, ho, rfl⟩
    · rintro ⟨e', he, o, ho, rfl⟩
      rcases List.mem_append.mp he with he | he
      · exact .inl ⟨e', he, o, ho, rfl⟩
      · rw [List.mem_singleton] at he
        subst he
        exact .inr ⟨o, ho, rfl⟩
  · have := h.len
    have := h2.len
    rw [List.length_append, List.length_append]
    simp; omega
theorem ok_limits_of_examples (F : TF T CS CR aS) (csequences_of : Cl T 2 "sequences_of" spSeqs) (climits_of_counts : Cl T 7 "limits_of_counts" (spLimC CS)) (ccounts_of : Cl T 3 "counts_of" (spCounts CS)) (D : Dn T "limits_of_examples" s_limits_of_examples) : Cl T 8 "limits_of_examples" (spLimE CS) := by
  refine cl_def D sc_limits_of_examples bd_limits_of_examples (fun _ => rfl) fun f cdv A outer s H E hr => ⟨_, (pss_cons (ps_set (i := 2) nd_limits_of_examples rfl (Or.inl rfl) (pe_lst pa_nil))
      (pss_cons (ps_for PassesOwn.never rfl (piL (⟨rfl, rfl, rfl, rfl, rfl⟩ : At _ T) (pv 1)) (pg_name (i := 3) nd_limits_of_examples rfl (.inl rfl) (.inl rfl)) (pss_cons (ps_asg (pc csequences_of (⟨rfl, rfl, rfl, rfl, rfl⟩ : At _ T) hr (by decide) rfl (pa_cons (pv 3) pa_nil)) (pgT 2 (⟨rfl, rfl, rfl, rfl, rfl⟩ : At _ T) rfl (pgs_cons (pg_name (i := 4) nd_limits_of_examples rfl (.inl rfl) (.inl rfl)) (pgs_cons (pg_name (i := 5) nd_limits_of_examples rfl (.inl rfl) (.inl rfl)) pgs_nil))))
      (pss_one (ps_expr (pmExtend (⟨rfl, rfl, rfl, rfl, rfl⟩ : At _ T) (pv 2) (pa_cons (pc climits_of_counts (⟨rfl, rfl, rfl, rfl, rfl⟩ : At _ T) hr (by decide) rfl (pa_cons (pv 0) (pa_cons (pv 4) (pa_cons (pv 5) (pa_cons (pc ccounts_of (⟨rfl, rfl, rfl, rfl, rfl⟩ : At _ T) hr (by decide) rfl (pa_cons (pv 0) (pa_cons (pv 3) pa_nil))) pa_nil))))) pa_nil))))))
      (pss_one (ps_ret (pv 2))))), ?_⟩
  rintro ⟨sc, exs⟩ Fm D eb hok hR -
  have hok : okG sc exs := hok
  obtain ⟨g1, g2, g3⟩ := hok
  show Tr Fm [some (sh (qSc CS) sc), some (sh (rL qAl) exs), none, none, none, none] _ _
  refine tr_asgNE (r := rL qI) (xs := []) en_nil ?_
  refine tr_forS (S := List (List Int)) (ei_list (p := (· = exs)) (ev_var rfl) tg_name) (fun _ i l => LimE sc (exs.take i) l) (fun l => [some (sh (qSc CS) sc), some (sh (rL qAl) exs), some (ownL (rL qI) l), none, none, none]) ?_ ?_ ?_
  · rintro xs -
    exact ⟨[], ⟨fun a => by simp, by simp⟩, (by repeat (first | exact lss_nil | apply lss_some | apply lss_none))⟩
  · intro xs hxs B i e he l hl
    rw [hxs] at he
    obtain ⟨e1, e2, e3⟩ := g2 e (List.mem_of_getElem? he)
    have hi : i < exs.length := (List.getElem?_eq_some_iff.mp he).1
    show Tr _ [some (sh (qSc CS) sc), some (sh (rL qAl) exs), some (ownL (rL qI) l), some (sh qAl e), none, none] _ _
    refine tr_asgT (r := qAl) (p := (· = (bareF e.1, bareF e.2))) (ev_call1D (ev_var rfl) e rfl (show e.1.length ≤ 1000 ∧ e.2.length ≤ 1000 from ⟨by omega, by omega⟩) fun _ h => h) tg_pair ?_
    rintro _ rfl
    show Tr _ [some (sh (qSc CS) sc), some (sh (rL qAl) exs), some (ownL (rL qI) l), some (sh qAl e), some (sh qW (bareF e.1)), some (sh qW (bareF e.2))] _ _
    refine tr_last (tr_extend (i := 2) (q := fun z => LimC sc (bareF e.1) (bareF e.2) (countsF sc e) z) rfl (ev_call4D (x4 := countsF sc e) (ev_var rfl) (ev_var rfl) (ev_var rfl) (ev_call2D (ev_var rfl) (ev_var rfl) (sc, e) rfl ⟨e3.1, (show e.1.length ≤ 1000 by omega)⟩ fun _ h => h) ((sc, bareF e.1, bareF e.2), countsF sc e) rfl e3 fun _ h => h) ?_ ?_)
    · intro ys hy
      have h1 := hl.len
      have h2 := hy.len
      rw [List.length_take] at h1
      omega
    · intro ys hy
      exact tr_nx rfl (l ++ ys) (by rw [take_succ' he]; exact limE_snoc hl hy) (by repeat (first | exact lss_nil | apply lss_some | apply lss_none))
  · intro xs hxs l hl
    rw [hxs, List.take_length] at hl
    exact tr_share (i := 2) rfl (tr_retD (ev_var rfl) hR hl)
abbrev s_rays_of_examples : Stmt := topS 49
abbrev N_rays_of_examples : List Str := ["scheme", "examples"]
theorem sc_rays_of_examples : FnScope N_rays_of_examples ["scheme", "examples"] (defScope s_rays_of_examples) := ⟨rfl, rfl, rfl, by decide +kernel, rfl, by decide +kernel, by decide +kernel⟩
theorem nd_rays_of_examples : N_rays_of_examples.Nodup := by decide +kernel
theorem bd_rays_of_examples (kV doc pm : Value) (an : Option Addr) (cdv ct : Value) (us : List Value) (hl : us.length = List.length (α := Str) ["scheme", "examples"]) : bindArgs (PySem.W.fnOf "rays_of_examples" "rays_of_examples" (defArgs s_rays_of_examples) (defBody s_rays_of_examples) (defScope s_rays_of_examples) .none kV doc pm an cdv ct) ⟨us, []⟩ = pure (List.zip (α := Str) ["scheme", "examples"] us) := match us, hl with | [_, _], _ => rfl

def RayE (sc : Sc) (exs : List (List Nat × List Nat)) (z : List (List Int)) : Prop := ∃ l, LimE sc exs l ∧ z.Perm ((raysF sc.size.toNat l).map (·.1))
abbrev spRayE (CS : Addr) : Sp := spOf (ι := Sc × List (List Nat × List Nat)) (fun _ => none) (fun g => [sh (qSc CS) g.1, sh (rL qAl) g.2]) (fun g => okG g.1 g.2) (rL (rL qI)) (fun g z => RayE g.1 g.2 z)
theorem size_nat (sc : Sc) : ((sc.size.toNat : Nat) : Int) = sc.size := by have := size_range sc; omega
theorem ok_rays_of_examples (F : TF T CS CR aS) (crays_of : Cl T 5 "rays_of" spRaysOf) (csize : Cl T 1 "size" (spSize CS)) (climits_of_examples : Cl T 8 "limits_of_examples" (spLimE CS)) (D : Dn T "rays_of_examples" s_rays_of_examples) : Cl T 9 "rays_of_examples" (spRayE CS) := by
  refine cl_def D sc_rays_of_examples bd_rays_of_examples (fun _ => rfl) fun f cdv A outer s H E hr => ⟨_, (pss_one (ps_ret (pc crays_of (⟨rfl, rfl, rfl, rfl, rfl⟩ : At _ T) hr (by decide) rfl (pa_cons (pc csize (⟨rfl, rfl, rfl, rfl, rfl⟩ : At _ T) hr (by decide) rfl (pa_cons (pv 0) pa_nil)) (pa_cons (pc climits_of_examples (⟨rfl, rfl, rfl, rfl, rfl⟩ : At _ T) hr (by decide) rfl (pa_cons (pv 0) (pa_cons (pv 1) pa_nil))) pa_nil))))), ?_⟩
  rintro ⟨sc, exs⟩ Fm D eb hok hR -
  have hok : okG sc exs := hok
  show Tr Fm [some (sh (qSc CS) sc), some (sh (rL qAl) exs)] _ _
  refine tr_ret (ev_call2 (p1 := (· = sc.size)) (p2 := fun z => LimE sc exs z) (ev_call1D (ev_var rfl) sc rfl trivial fun _ h => h) (ev_call2D (ev_var rfl) (ev_var rfl) (sc, exs) rfl hok fun _ h => h) ?_) hR (fun _ h => h)
  intro y1 l e1 hl
  exact ⟨(sc.size.toNat, l), by rw [e1]; show _ = [sh qI ((sc.size.toNat : Nat) : Int), sh (rL (rL qI)) l]; rw [size_nat], hl.inOk hok, fun z hz => ⟨l, hl, hz⟩⟩
abbrev s_explaining_costs : Stmt := topS 62
abbrev N_explaining_costs : List Str := ["scheme", "examples"]
theorem sc_explaining_costs : FnScope N_explaining_costs ["scheme", "examples"] (defScope s_explaining_costs) := ⟨rfl, rfl, rfl, by decide +kernel, rfl, by decide +kernel, by decide +kernel⟩
theorem nd_explaining_costs : N_explaining_costs.Nodup := by decide +kernel
theorem bd_explaining_costs (kV doc pm : Value) (an : Option Addr) (cdv ct : Value) (us : List Value) (hl : us.length = List.length (α := Str) ["scheme", "examples"]) : bindArgs (PySem.W.fnOf "explaining_costs" "explaining_costs" (defArgs s_explaining_costs) (defBody s_explaining_costs) (defScope s_explaining_costs) .none kV doc pm an cdv ct) ⟨us, []⟩ = pure (List.zip (α := Str) ["scheme", "examples"] us) := match us, hl with | [_, _], _ => rfl

abbrev spExC (CS : Addr) : Sp := spOf (ι := Sc × List (List Nat × List Nat)) (fun _ => none) (fun g => [sh (qSc CS) g.1, sh (rL qAl) g.2]) (fun g => okG g.1 g.2) (qO (rL qI)) (fun g z => ExC g.1 g.2 z)
theorem ok_explaining_costs (F : TF T CS CR aS) (cinner_costs : Cl T 2 "inner_costs" spInner) (crays_of_examples : Cl T 9 "rays_of_examples" (spRayE CS)) (D : Dn T "explaining_costs" s_explaining_costs) : Cl T 10 "explaining_costs" (spExC CS) := by
  refine cl_def D sc_explaining_costs bd_explaining_costs (fun _ => rfl) fun f cdv A outer s H E hr => ⟨_, (pss_one (ps_ret (pc cinner_costs (⟨rfl, rfl, rfl, rfl, rfl⟩ : At _ T) hr (by decide) rfl (pa_cons (pc crays_of_examples (⟨rfl, rfl, rfl, rfl, rfl⟩ : At _ T) hr (by decide) rfl (pa_cons (pv 0) (pa_cons (pv 1) pa_nil))) pa_nil)))), ?_⟩
  rintro ⟨sc, exs⟩ Fm D eb hok hR -
  have hok : okG sc exs := hok
  show Tr Fm [some (sh (qSc CS) sc), some (sh (rL qAl) exs)] _ _
  refine tr_ret (ev_call1 (p1 := fun z => RayE sc exs z) (ev_call2D (ev_var rfl) (ev_var rfl) (sc, exs) rfl hok fun _ h => h) ?_) hR (fun _ h => h)
  rintro z ⟨l, hl, hz⟩
  exact ⟨(sc.size.toNat, z), rfl, (hl.inOk hok).zOk hz, fun v hv => by rw [show v = innF sc.size.toNat z from hv]; exact exC_of hl hok hz⟩
abbrev s_explanation : Stmt := topS 63
abbrev N_explanation : List Str := ["scheme", "examples", "costs", "tables", "alignment", "first", "second"]
theorem sc_explanation : FnScope N_explanation ["scheme", "examples"] (defScope s_explanation) := ⟨rfl, rfl, rfl, by decide +kernel, rfl, by decide +kernel, by decide +kernel⟩
theorem nd_explanation : N_explanation.Nodup := by decide +kernel
theorem bd_explanation (kV doc pm : Value) (an : Option Addr) (cdv ct : Value) (us : List Value) (hl : us.length = List.length (α := Str) ["scheme", "examples"]) : bindArgs (PySem.W.fnOf "explanation" "explanation" (defArgs s_explanation) (defBody s_explanation) (defScope s_explanation) .none kV doc pm an cdv ct) ⟨us, []⟩ = pure (List.zip (α := Str) ["scheme", "examples"] us) := match us, hl with | [_, _], _ => rfl

abbrev TabT : Type := List (List (List (Option Int)))
abbrev qEx : RP (List Int × List TabT) := qP (rL qI) (rL qTab)
abbrev spExpl (CS : Addr) : Sp := spOf (ι := Sc × List (List Nat × List Nat)) (fun _ => none) (fun g => [sh (qSc CS) g.1, sh (rL qAl) g.2]) (fun g => okG g.1 g.2) (qO qEx) (fun g z => ExC g.1 g.2 (z.map (·.1)))
theorem ok_explanation (F : TF T CS CR aS) (cexplaining_costs : Cl T 10 "explaining_costs" (spExC CS)) (csequences_of : Cl T 2 "sequences_of" spSeqs) (ctable_of : Cl T 5 "table_of" (spTable CS)) (D : Dn T "explanation" s_explanation) : Cl T 11 "explanation" (spExpl CS) := by
  refine cl_def D sc_explanation bd_explanation (fun _ => rfl) fun f cdv A outer s H E hr => ⟨_, (pss_cons (ps_set (i := 2) nd_explanation rfl (Or.inl rfl) (pc cexplaining_costs (⟨rfl, rfl, rfl, rfl, rfl⟩ : At _ T) hr (by decide) rfl (pa_cons (pv 0) (pa_cons (pv 1) pa_nil))))
      (pss_cons (ps_if (pt_cmp (pc_isN (pv 2))) (pss_one (ps_ret pe_non)) pss_nil)
      (pss_cons (ps_set (i := 3) nd_explanation rfl (Or.inl rfl) (pe_lst pa_nil))
      (pss_cons (ps_for PassesOwn.never rfl (piL (⟨rfl, rfl, rfl, rfl, rfl⟩ : At _ T) (pv 1)) (pg_name (i := 4) nd_explanation rfl (.inl rfl) (.inl rfl)) (pss_cons (ps_asg (pc csequences_of (⟨rfl, rfl, rfl, rfl, rfl⟩ : At _ T) hr (by decide) rfl (pa_cons (pv 4) pa_nil)) (pgT 2 (⟨rfl, rfl, rfl, rfl, rfl⟩ : At _ T) rfl (pgs_cons (pg_name (i := 5) nd_explanation rfl (.inl rfl) (.inl rfl)) (pgs_cons (pg_name (i := 6) nd_explanation rfl (.inl rfl) (.inl rfl)) pgs_nil))))
      (pss_one (ps_expr (pmAppend (⟨rfl, rfl, rfl, rfl, rfl⟩ : At _ T) (pv 3) (pa_cons (pc ctable_of (⟨rfl, rfl, rfl, rfl, rfl⟩ : At _ T) hr (by decide) rfl (pa_cons (pv 0) (pa_cons (pv 5) (pa_cons (pv 6) (pa_cons (pv 2) pa_nil))))) pa_nil))))))
      (pss_one (ps_ret (pe_tup (pa_cons (pv 2) (pa_cons (pv 3) pa_nil))))))))), ?_⟩
  rintro ⟨sc, exs⟩ Fm D eb hok hR -
  have hok : okG sc exs := hok
  obtain ⟨g1, g2, g3⟩ := id hok
  show Tr Fm [some (sh (qSc CS) sc), some (sh (rL qAl) exs), none, none, none, none, none] _ _
  refine tr_asg (r := qO (rL qI)) (p := fun v => ExC sc exs v) (ev_call2D (ev_var rfl) (ev_var rfl) (sc, exs) rfl hok fun _ h => h) ?_
  intro v hv
  show Tr Fm [some (sh (qSc CS) sc), some (sh (rL qAl) exs), some (sh (qO (rL qI)) v), none, none, none, none] _ _
  refine tr_ifD (b := v.isNone) (et_B (ev_isN (p := (· = v)) (ev_var rfl) (by rintro _ rfl; rfl))) (fun hb => ?_) (fun hb => tr_nil ?_)
  · refine tr_retS ev_none hR fun x e => ?_
    rw [e]
    have : v = none := by cases v with | none => rfl | some _ => cases hb
    rw [this] at hv
    exact hv
  · obtain ⟨c, rfl⟩ : ∃ c, v = some c := by cases v with | none => cases hb | some c => exact ⟨c, rfl⟩
    obtain ⟨⟨c1, c2, c3⟩, c4⟩ := hv.yes c rfl
    have hs := size_range sc
    refine tr_asgNE (r := qTab) (xs := []) en_nil ?_
    refine tr_forS (S := List TabT) (ei_list (p := (· = exs)) (ev_var rfl) tg_name) (fun _ i l => l.length = i) (fun l => [some (sh (qSc CS) sc), some (sh (rL qAl) exs), some (sh (qO (rL qI)) (some c)), some (ownL qTab l), none, none, none]) ?_ ?_ ?_
    · rintro xs -
      exact ⟨[], rfl, (by repeat (first | exact lss_nil | apply lss_some | apply lss_none))⟩
    · intro xs hxs B i e he l hl
      rw [hxs] at he
      obtain ⟨e1, e2, e3⟩ := g2 e (List.mem_of_getElem? he)
      have hi : i < exs.length := (List.getElem?_eq_some_iff.mp he).1
      show Tr _ [some (sh (qSc CS) sc), some (sh (rL qAl) exs), some (sh (qO (rL qI)) (some c)), some (ownL qTab l), some (sh qAl e), none, none] _ _
      refine tr_asgT (r := qAl) (p := (· = (bareF e.1, bareF e.2))) (ev_call1D (ev_var rfl) e rfl (show e.1.length ≤ 1000 ∧ e.2.length ≤ 1000 from ⟨by omega, by omega⟩) fun _ h => h) tg_pair ?_
      rintro _ rfl
      show Tr _ [some (sh (qSc CS) sc), some (sh (rL qAl) exs), some (sh (qO (rL qI)) (some c)), some (ownL qTab l), some (sh qAl e), some (sh qW (bareF e.1)), some (sh qW (bareF e.2))] _ _
      refine tr_last (tr_append (i := 3) (p := fun _ => True) rfl (ev_call4D (x4 := c) (ev_var rfl) (ev_var rfl) (ev_var rfl) (ev_the (p := (· = some c)) (ev_var rfl) (by rintro _ rfl; exact ⟨c, rfl, rfl⟩)) ((sc, bareF e.1, bareF e.2), c) rfl ⟨e3, ⟨show c.length ≤ 5 by omega, fun v hv => Nat.lt_trans (c4 v hv) (Nat.pow_lt_pow_right (by decide) (by decide))⟩⟩ fun _ _ => trivial) (by omega) ?_)
      intro t _
      exact tr_nx rfl (l ++ [t]) (by rw [List.length_append, hl]; rfl) (by repeat (first | exact lss_nil | apply lss_some | apply lss_none))
    · intro xs hxs l hl
      refine tr_share (i := 3) rfl (tr_ret (ev_some qP_ne (ev_tup2 (p1 := (· = c)) (p2 := (· = l)) (ev_the (p := (· = some c)) (ev_var rfl) (by rintro _ rfl; exact ⟨c, rfl, rfl⟩)) fun _ _ => ev_var rfl)) hR ?_)
      rintro z ⟨⟨a, b⟩, ⟨e1, e2⟩, rfl⟩
      have e1 : a = c := e1
      subst e1
      exact hv
abbrev s_best_for_some : Stmt := topS 52
abbrev N_best_for_some : List Str := ["scheme", "examples", "first", "second", "limits", "found", "counts", "here"]
theorem sc_best_for_some : FnScope N_best_for_some ["scheme", "examples", "first", "second"] (defScope s_best_for_some) := ⟨rfl, rfl, rfl, by decide +kernel, rfl, by decide +kernel, by decide +kernel⟩
theorem nd_best_for_some : N_best_for_some.Nodup := by decide +kernel
theorem bd_best_for_some (kV doc pm : Value) (an : Option Addr) (cdv ct : Value) (us : List Value) (hl : us.length = List.length (α := Str) ["scheme", "examples", "first", "second"]) : bindArgs (PySem.W.fnOf "best_for_some" "best_for_some" (defArgs s_best_for_some) (defBody s_best_for_some) (defScope s_best_for_some) .none kV doc pm an cdv ct) ⟨us, []⟩ = pure (List.zip (α := Str) ["scheme", "examples", "first", "second"] us) := match us, hl with | [_, _, _, _], _ => rfl

abbrev spBest (CS : Addr) : Sp := spOf (ι := Sc × List (List Nat × List Nat) × List Nat × List Nat) (fun _ => none) (fun g => [sh (qSc CS) g.1, sh (rL qAl) g.2.1, sh qW g.2.2.1, sh qW g.2.2.2]) (fun g => okG g.1 g.2.1 ∧ okXY (g.1, g.2.2)) (rL (rL qI)) (fun g z => BestF g.1 g.2.1 g.2.2.1 g.2.2.2 z)
theorem ok_best_for_some (F : TF T CS CR aS) (climits_of_examples : Cl T 8 "limits_of_examples" (spLimE CS)) (cminimal_counts : Cl T 6 "minimal_counts" (spMinimal CS)) (climits_of_counts : Cl T 7 "limits_of_counts" (spLimC CS)) (cinner_costs : Cl T 2 "inner_costs" spInner) (crays_of : Cl T 5 "rays_of" spRaysOf) (csize : Cl T 1 "size" (spSize CS)) (D : Dn T "best_for_some" s_best_for_some) : Cl T 9 "best_for_some" (spBest CS) := by
  refine cl_def D sc_best_for_some bd_best_for_some (fun _ => rfl) fun f cdv A outer s H E hr => ⟨_, (pss_cons (ps_set (i := 4) nd_best_for_some rfl (Or.inl rfl) (pc climits_of_examples (⟨rfl, rfl, rfl, rfl, rfl⟩ : At _ T) hr (by decide) rfl (pa_cons (pv 0) (pa_cons (pv 1) pa_nil))))
      (pss_cons (ps_set (i := 5) nd_best_for_some rfl (Or.inl rfl) (pe_lst pa_nil))
      (pss_cons (ps_for PassesOwn.never rfl (piL (⟨rfl, rfl, rfl, rfl, rfl⟩ : At _ T) (pc cminimal_counts (⟨rfl, rfl, rfl, rfl, rfl⟩ : At _ T) hr (by decide) rfl (pa_cons (pv 0) (pa_cons (pv 2) (pa_cons (pv 3) pa_nil))))) (pg_name (i := 6) nd_best_for_some rfl (.inl rfl) (.inl rfl)) (pss_cons (ps_set (i := 7) nd_best_for_some rfl (Or.inl rfl) (pe_op op_cat (pv 4) (pc climits_of_counts (⟨rfl, rfl, rfl, rfl, rfl⟩ : At _ T) hr (by decide) rfl (pa_cons (pv 0) (pa_cons (pv 2) (pa_cons (pv 3) (pa_cons (pv 6) pa_nil)))))))
      (pss_one (ps_if (pt_cmp (pc_notN (pc cinner_costs (⟨rfl, rfl, rfl, rfl, rfl⟩ : At _ T) hr (by decide) rfl (pa_cons (pc crays_of (⟨rfl, rfl, rfl, rfl, rfl⟩ : At _ T) hr (by decide) rfl (pa_cons (pc csize (⟨rfl, rfl, rfl, rfl, rfl⟩ : At _ T) hr (by decide) rfl (pa_cons (pv 0) pa_nil)) (pa_cons (pv 7) pa_nil))) pa_nil)))) (pss_one (ps_expr (pmAppend (⟨rfl, rfl, rfl, rfl, rfl⟩ : At _ T) (pv 5) (pa_cons (pv 6) pa_nil)))) pss_nil))))
      (pss_one (ps_ret (pv 5)))))), ?_⟩
  rintro ⟨sc, exs, x, y⟩ Fm D eb ⟨hok, hxy⟩ hR -
  have hok : okG sc exs := hok
  have hxy : okXY (sc, x, y) := hxy
  show Tr Fm [some (sh (qSc CS) sc), some (sh (rL qAl) exs), some (sh qW x), some (sh qW y), none, none, none, none] _ _
  refine tr_asg (r := rL (rL qI)) (p := fun z => LimE sc exs z) (ev_call2D (ev_var rfl) (ev_var rfl) (sc, exs) rfl hok fun _ h => h) ?_
  intro lims hl
  refine tr_asgNE (r := rL qI) (xs := []) en_nil ?_
  refine tr_forS (S := List (List Int)) (ei_list (p := fun z => MinF sc x y z) (ev_call3D (ev_var rfl) (ev_var rfl) (ev_var rfl) (sc, x, y) rfl hxy fun _ h => h) tg_name) (fun xs i l => (∀ c, c ∈ l ↔ c ∈ xs.take i ∧ Fits sc exs x y c) ∧ l.length ≤ i) (fun l => [some (sh (qSc CS) sc), some (sh (rL qAl) exs), some (sh qW x), some (sh qW y), some (sh (rL (rL qI)) lims), some (ownL (rL qI) l), none, none]) ?_ ?_ ?_
  · rintro xs -
    exact ⟨[], ⟨fun c => by simp, Nat.le_refl _⟩, (by repeat (first | exact lss_nil | apply lss_some | apply lss_none))⟩
  · intro xs hxs B i c hc l ⟨hm, hll⟩
    have hcM : Mn sc x y c := (hxs.mem c).mp (List.mem_of_getElem? hc)
    have hi : i < xs.length := (List.getElem?_eq_some_iff.mp hc).1
    have hx63 := hxs.len
    show Tr _ [some (sh (qSc CS) sc), some (sh (rL qAl) exs), some (sh qW x), some (sh qW y), some (sh (rL (rL qI)) lims), some (ownL (rL qI) l), some (sh (rL qI) c), none] _ _
    refine tr_asgN (r := rL qI) (en_cat (p := (· = lims)) (p2 := fun z => LimC sc x y c z) (ev_var rfl) (fun _ _ => ev_call4D (ev_var rfl) (ev_var rfl) (ev_var rfl) (ev_var rfl) ((sc, x, y), c) rfl hxy fun _ h => h) ?_) ?_
    · rintro _ ys rfl hy
      have h1 := hl.len
      have h2 := hy.len
      have h3 := hok.1
      omega
    rintro here ⟨l1, l2, e1, h2, e2⟩
    obtain rfl := e1.symm
    subst e2
    have hin := two_inOk hl hok hxy h2 hcM.1
    refine tr_share (i := 7) rfl ?_
    refine tr_last (tr_if (q := fun b => b = true ↔ Fits sc exs x y c) (et_B (ev_notN (p := fun v => v.isSome = true ↔ Fits sc exs x y c) (ev_call1 (p1 := fun z => z.Perm ((raysF sc.size.toNat (lims ++ l2)).map (·.1))) (ev_call2 (p1 := (· = sc.size)) (p2 := (· = lims ++ l2)) (ev_call1D (ev_var rfl) sc rfl trivial fun _ h => h) (ev_var rfl) ?_) ?_) fun _ h => h)) (fun hb => ?_) (fun hb => tr_nil ?_))
    · rintro y1 _ e1 rfl
      exact ⟨(sc.size.toNat, lims ++ l2), by rw [e1]; show _ = [sh qI ((sc.size.toNat : Nat) : Int), sh (rL (rL qI)) (lims ++ l2)]; rw [size_nat], hin, fun z hz => hz⟩
    · intro z hz
      exact ⟨(sc.size.toNat, z), rfl, hin.zOk hz, fun v hv => by rw [show v = innF sc.size.toNat z from hv]; exact fits_of hl h2 hcM hz⟩
    · have hf : Fits sc exs x y c := hb.mp rfl
      refine tr_appendD (i := 5) (x := c) rfl (ev_var rfl) (by omega) ?_
      refine tr_nx rfl (l ++ [c]) ⟨fun c' => ?_, by rw [List.length_append]; simp; omega⟩ (by repeat (first | exact lss_nil | apply lss_some | apply lss_none))
      rw [take_succ' hc, List.mem_append, List.mem_append, hm, List.mem_singleton]
      constructor
      · rintro (⟨a1, a2⟩ | rfl)
        · exact ⟨.inl a1, a2⟩
        · exact ⟨.inr rfl, hf⟩
      · rintro ⟨a1 | rfl, a2⟩
        · exact .inl ⟨a1, a2⟩
        · exact .inr rfl
    · have hf : ¬ Fits sc exs x y c := fun z => by have := hb.mpr z; cases this
      refine tr_nx rfl l ⟨fun c' => ?_, by omega⟩ (by repeat (first | exact lss_nil | apply lss_some | apply lss_none))
      rw [take_succ' hc, List.mem_append, hm, List.mem_singleton]
      constructor
      · rintro ⟨a1, a2⟩; exact ⟨.inl a1, a2⟩
      · rintro ⟨a1 | rfl, a2⟩
        · exact ⟨a1, a2⟩
        · exact (hf a2).elim
  · intro xs hxs l ⟨hm, hll⟩
    rw [List.take_length] at hm
    have hx63 := hxs.len
    refine tr_share (i := 5) rfl (tr_retD (ev_var rfl) hR ⟨fun c => ?_, by omega⟩)
    rw [hm, hxs.mem]
    exact ⟨fun h => h.2, fun h => ⟨h.1, h⟩⟩
end
end Rf
/-! WkM: foretold's matches. -/
namespace Rf
open PySem PySem.Spec PyProof.Rows L2
/-- one told whole -/
def MtOk (sc : Sc) (x y : List Nat) (c : List Int) (t : Int × DM Int) : Prop := t.1 = ((Suf sc x y 0 0 0).count c : Int) ∧ MatF sc x y c t.2
structure MtF (sc : Sc) (exs : List (List Nat × List Nat)) (x y : List Nat) (z : List (Int × DM Int)) : Prop where
  fwd : ∀ t ∈ z, ∃ c, Fits sc exs x y c ∧ MtOk sc x y c t
  bwd : ∀ c, Fits sc exs x y c → ∃ t ∈ z, MtOk sc x y c t
  len : z.length ≤ 63
structure CerF (sc : Sc) (exs : List (List Nat × List Nat)) (x y : List Nat) (z : List (List Int)) : Prop where
  mem : ∀ k ∈ z, ∃ p : Nat × Nat, k = [(p.1 : Int), (p.2 : Int)] ∧ ∀ c, Fits sc exs x y c → Mcol sc x y c p = (Suf sc x y 0 0 0).count c
  emp : (∀ c, ¬ Fits sc exs x y c) → z = []
  len : z.length ≤ 9
structure PosF (sc : Sc) (exs : List (List Nat × List Nat)) (x y : List Nat) (z : List (List Int)) : Prop where
  mem : ∀ k, k ∈ z ↔ ∃ (c : List Int) (p : Nat × Nat), Fits sc exs x y c ∧ k = [(p.1 : Int), (p.2 : Int)] ∧ Mcol sc x y c p ≠ 0
  len : z.length ≤ 567
theorem MatF.mem {sc : Sc} {x y : List Nat} {c : List Int} {z : DM Int} (h : MatF sc x y c z) (k : List Int) : k ∈ keysM z ↔ ∃ p : Nat × Nat, k = [(p.1 : Int), (p.2 : Int)] ∧ Mcol sc x y c p ≠ 0 := by
  constructor
  · intro hk
    obtain ⟨i, j, rfl, _, _⟩ := h.key k hk
    refine ⟨(i, j), rfl, fun e => ?_⟩
    have := h.val (i, j)
    rw [if_pos e] at this
    exact valM_none.mp this hk
  · rintro ⟨p, rfl, hp⟩
    apply Decidable.byContradiction
    intro hk
    have := valM_none.mpr hk
    rw [h.val p, if_neg hp] at this
    cases this
section
variable {T : Tx} {CS CR aS : Addr} {β : Option Addr} {Γ : EnvA} {te ta : TE} {K : PySem.W.Frag}
abbrev s_matches : Stmt := topS 53
abbrev N_matches : List Str := ["scheme", "examples", "first", "second", "found", "counts", "whole"]
theorem sc_matches : FnScope N_matches ["scheme", "examples", "first", "second"] (defScope s_matches) := ⟨rfl, rfl, rfl, by decide +kernel, rfl, by decide +kernel, by decide +kernel⟩
theorem nd_matches : N_matches.Nodup := by decide +kernel
theorem bd_matches (kV doc pm : Value) (an : Option Addr) (cdv ct : Value) (us : List Value) (hl : us.length = List.length (α := Str) ["scheme", "examples", "first", "second"]) : bindArgs (PySem.W.fnOf "_matches" "_matches" (defArgs s_matches) (defBody s_matches) (defScope s_matches) .none kV doc pm an cdv ct) ⟨us, []⟩ = pure (List.zip (α := Str) ["scheme", "examples", "first", "second"] us) := match us, hl with | [_, _, _, _], _ => rfl

abbrev qMt (T : Tx) : RP (Int × DM Int) := qP qI (qD T.P T.w T.K qI)
abbrev spMts (CS : Addr) (T : Tx) : Sp := spOf (ι := Sc × List (List Nat × List Nat) × List Nat × List Nat) (fun _ => none) (fun g => [sh (qSc CS) g.1, sh (rL qAl) g.2.1, sh qW g.2.2.1, sh qW g.2.2.2]) (fun g => okG g.1 g.2.1 ∧ okXY (g.1, g.2.2)) (rL (qMt T)) (fun g z => MtF g.1 g.2.1 g.2.2.1 g.2.2.2 z)
theorem ok_matches (F : TF T CS CR aS) (cbest_for_some : Cl T 9 "best_for_some" (spBest CS)) (ccount_with : Cl T 5 "count_with" (spCountWith CS)) (cmatches_with : Cl T 5 "matches_with" (spMatches CS T)) (D : Dn T "_matches" s_matches) : Cl T 10 "_matches" (spMts CS T) := by
  refine cl_def D sc_matches bd_matches (fun _ => rfl) fun f cdv A outer s H E hr => ⟨_, (pss_cons (ps_set (i := 4) nd_matches rfl (Or.inl rfl) (pe_lst pa_nil))
      (pss_cons (ps_for PassesOwn.never rfl (piL (⟨rfl, rfl, rfl, rfl, rfl⟩ : At _ T) (pc cbest_for_some (⟨rfl, rfl, rfl, rfl, rfl⟩ : At _ T) hr (by decide) rfl (pa_cons (pv 0) (pa_cons (pv 1) (pa_cons (pv 2) (pa_cons (pv 3) pa_nil)))))) (pg_name (i := 5) nd_matches rfl (.inl rfl) (.inl rfl)) (pss_cons (ps_set (i := 6) nd_matches rfl (Or.inl rfl) (pc ccount_with (⟨rfl, rfl, rfl, rfl, rfl⟩ : At _ T) hr (by decide) rfl (pa_cons (pv 0) (pa_cons (pv 2) (pa_cons (pv 3) (pa_cons (pv 5) pa_nil))))))
      (pss_one (ps_expr (pmAppend (⟨rfl, rfl, rfl, rfl, rfl⟩ : At _ T) (pv 4) (pa_cons (pe_tup (pa_cons (pv 6) (pa_cons (pc cmatches_with (⟨rfl, rfl, rfl, rfl, rfl⟩ : At _ T) hr (by decide) rfl (pa_cons (pv 0) (pa_cons (pv 2) (pa_cons (pv 3) (pa_cons (pv 5) pa_nil))))) pa_nil))) pa_nil))))))
      (pss_one (ps_ret (pv 4))))), ?_⟩
  rintro ⟨sc, exs, x, y⟩ Fm D eb ⟨hok, hxy⟩ hR -
  have hok : okG sc exs := hok
  have hxy : okXY (sc, x, y) := hxy
  show Tr Fm [some (sh (qSc CS) sc), some (sh (rL qAl) exs), some (sh qW x), some (sh qW y), none, none, none] _ _
  refine tr_asgNE (r := qMt T) (xs := []) en_nil ?_
  refine tr_forS (S := List (Int × DM Int)) (ei_list (p := fun z => BestF sc exs x y z) (ev_call4D (ev_var rfl) (ev_var rfl) (ev_var rfl) (ev_var rfl) (sc, exs, x, y) rfl ⟨hok, hxy⟩ fun _ h => h) tg_name) (fun xs i l => (∀ t ∈ l, ∃ c, Fits sc exs x y c ∧ MtOk sc x y c t) ∧ (∀ c ∈ xs.take i, ∃ t ∈ l, MtOk sc x y c t) ∧ l.length = i) (fun l => [some (sh (qSc CS) sc), some (sh (rL qAl) exs), some (sh qW x), some (sh qW y), some (ownL (qMt T) l), none, none]) ?_ ?_ ?_
  · rintro xs -
    exact ⟨[], ⟨(fun t h => nomatch h), (fun c h => by rw [List.take_zero] at h; cases h), rfl⟩, (by repeat (first | exact lss_nil | apply lss_some | apply lss_none))⟩
  · intro xs hxs B i c hc l ⟨h1, h2, h3⟩
    have hf : Fits sc exs x y c := (hxs.mem c).mp (List.mem_of_getElem? hc)
    have hi : i < xs.length := (List.getElem?_eq_some_iff.mp hc).1
    have hx63 := hxs.len
    have hcl := suf_mem_len hf.1.1
    show Tr _ [some (sh (qSc CS) sc), some (sh (rL qAl) exs), some (sh qW x), some (sh qW y), some (ownL (qMt T) l), some (sh (rL qI) c), none] _ _
    refine tr_asgD (r := qI) (x := ((Suf sc x y 0 0 0).count c : Int)) (ev_call4D (ev_var rfl) (ev_var rfl) (ev_var rfl) (ev_var rfl) ((sc, x, y), c) rfl hxy fun _ h => h) ?_
    refine tr_last (tr_append (i := 4) (r := qMt T) (p := fun t => MtOk sc x y c t) rfl ((ev_tup2 (p1 := (· = ((Suf sc x y 0 0 0).count c : Int))) (p2 := fun z => MatF sc x y c z) (ev_var rfl) fun _ _ => ev_call4D (ev_var rfl) (ev_var rfl) (ev_var rfl) (ev_var rfl) ((sc, x, y), c) rfl ⟨hxy, hcl⟩ fun _ h => h).imp fun t ht => ht) (by omega) ?_)
    intro t ht
    refine tr_nx rfl (l ++ [t]) ⟨fun t' ht' => ?_, fun c' hc' => ?_, by rw [List.length_append, h3]; rfl⟩ (by repeat (first | exact lss_nil | apply lss_some | apply lss_none))
    · rcases List.mem_append.mp ht' with q | q
      · exact h1 t' q
      · rw [List.mem_singleton.mp q]; exact ⟨c, hf, ht⟩
    · rw [take_succ' hc] at hc'
      rcases List.mem_append.mp hc' with q | q
      · obtain ⟨t', q1, q2⟩ := h2 c' q
        exact ⟨t', List.mem_append_left _ q1, q2⟩
      · rw [List.mem_singleton.mp q]; exact ⟨t, List.mem_append_right _ List.mem_cons_self, ht⟩
  · intro xs hxs l ⟨h1, h2, h3⟩
    rw [List.take_length] at h2
    have hx63 := hxs.len
    exact tr_share (i := 4) rfl (tr_retD (ev_var rfl) hR ⟨h1, fun c hc => h2 c ((hxs.mem c).mpr hc), by omega⟩)
abbrev s_certain_for_all : Stmt := topS 54
abbrev N_certain_for_all : List Str := ["scheme", "examples", "first", "second", "found", "pair", "whole", "told"]
theorem sc_certain_for_all : FnScope N_certain_for_all ["scheme", "examples", "first", "second"] (defScope s_certain_for_all) := ⟨rfl, rfl, rfl, by decide +kernel, rfl, by decide +kernel, by decide +kernel⟩
theorem nd_certain_for_all : N_certain_for_all.Nodup := by decide +kernel
theorem bd_certain_for_all (kV doc pm : Value) (an : Option Addr) (cdv ct : Value) (us : List Value) (hl : us.length = List.length (α := Str) ["scheme", "examples", "first", "second"]) : bindArgs (PySem.W.fnOf "certain_for_all" "certain_for_all" (defArgs s_certain_for_all) (defBody s_certain_for_all) (defScope s_certain_for_all) .none kV doc pm an cdv ct) ⟨us, []⟩ = pure (List.zip (α := Str) ["scheme", "examples", "first", "second"] us) := match us, hl with | [_, _, _, _], _ => rfl

abbrev spCertain (CS : Addr) (T : Tx) : Sp := spOf (ι := Sc × List (List Nat × List Nat) × List Nat × List Nat) (fun _ => none) (fun g => [sh (qSc CS) g.1, sh (rL qAl) g.2.1, sh qW g.2.2.1, sh qW g.2.2.2]) (fun g => okG g.1 g.2.1 ∧ okXY (g.1, g.2.2)) (rL (qTI T.K)) (fun g z => CerF g.1 g.2.1 g.2.2.1 g.2.2.2 z)
theorem ok_certain (F : TF T CS CR aS) (c_matches : Cl T 10 "_matches" (spMts CS T)) (D : Dn T "certain_for_all" s_certain_for_all) : Cl T 11 "certain_for_all" (spCertain CS T) := by
  refine cl_def D sc_certain_for_all bd_certain_for_all (fun _ => rfl) fun f cdv A outer s H E hr => ⟨_, (pss_cons (ps_set (i := 4) nd_certain_for_all rfl (Or.inr rfl) (pc c_matches (⟨rfl, rfl, rfl, rfl, rfl⟩ : At _ T) hr (by decide) rfl (pa_cons (pv 0) (pa_cons (pv 1) (pa_cons (pv 2) (pa_cons (pv 3) pa_nil))))))
      (pss_cons (ps_if (pt_not (ptru (⟨rfl, rfl, rfl, rfl, rfl⟩ : At _ T) (pv 4))) (pss_one (ps_ret (pe_lst pa_nil))) pss_nil)
      (pss_one (ps_ret (pb (⟨rfl, rfl, rfl, rfl, rfl⟩ : At _ T) (cSortT (⟨rfl, rfl, rfl, rfl, rfl⟩ : At _ T) hr) rfl F.sorted boot_sorted (pa_cons (pe_lc (own := [("pair", 5)]) rfl nd_certain_for_all (xi_keys (P := T.P) (w := T.w) rfl rfl (ixT (⟨rfl, rfl, rfl, rfl, rfl⟩ : At _ T) (ixL (⟨rfl, rfl, rfl, rfl, rfl⟩ : At _ T) (pv 4) pe_int) pe_int)) (blkOk_by (own := [("pair", 5)]) (N := N_certain_for_all) (sc := defScope s_certain_for_all) (by decide +kernel)) (fun _ _ _ _ _ => (pg_name (i := 5) nd_certain_for_all rfl (.inr rfl) (.inl rfl))) (fun _ _ _ _ _ => (pts_one (pt_val (pb (⟨rfl, rfl, rfl, rfl, rfl⟩ : At _ T) (cAll (⟨rfl, rfl, rfl, rfl, rfl⟩ : At _ T) rfl) rfl F.all boot_all (pa_cons (pe_lc (own := [("whole", 6), ("told", 7)]) rfl nd_certain_for_all (piL (⟨rfl, rfl, rfl, rfl, rfl⟩ : At _ T) (pv 4)) (blkOk_by (own := [("whole", 6), ("told", 7)]) (by kernel_rfl)) (fun _ _ _ _ _ => (pgT 2 (⟨rfl, rfl, rfl, rfl, rfl⟩ : At _ T) rfl (pgs_cons (pg_name (i := 6) nd_certain_for_all rfl (.inl rfl) (.inr rfl)) (pgs_cons (pg_name (i := 7) nd_certain_for_all rfl (.inl rfl) (.inr rfl)) pgs_nil)))) (fun _ _ _ _ _ => pts_nil) (fun _ _ _ _ _ => (pe_cmpR op_eq (xd_get2 (P := T.P) (w := T.w) (K := T.K) rfl rfl rfl (hu_of hr) (pv 7) (pv 5) pe_int ⟨rfl, rfl, rfl, rfl⟩) (pv 6) (nomark _)))) pa_nil))))) (fun _ _ _ _ _ => (pv 5))) pa_nil)))))), ?_⟩
  rintro ⟨sc, exs, x, y⟩ Fm D eb ⟨hok, hxy⟩ hR -
  have hok : okG sc exs := hok
  have hxy : okXY (sc, x, y) := hxy
  show Tr Fm [some (sh (qSc CS) sc), some (sh (rL qAl) exs), some (sh qW x), some (sh qW y), none, none, none, none] _ _
  refine tr_asg (r := rL (qMt T)) (p := fun z => MtF sc exs x y z) (ev_call4D (ev_var rfl) (ev_var rfl) (ev_var rfl) (ev_var rfl) (sc, exs, x, y) rfl ⟨hok, hxy⟩ fun _ h => h) ?_
  intro ts hts
  show Tr Fm [some (sh (qSc CS) sc), some (sh (rL qAl) exs), some (sh qW x), some (sh qW y), some (sh (rL (qMt T)) ts), none, none, none] _ _
  refine tr_ifD (b := !!ts.isEmpty) (et_notD (et_truL (p := (· = ts)) (ev_var rfl) (by rintro _ rfl; rfl))) (fun hb => ?_) (fun hb => tr_nil ?_)
  · refine tr_retS (p := (· = [])) en_nil.ev hR fun z e => ?_
    rw [e]
    exact ⟨(fun k h => nomatch h), (fun _ => rfl), Nat.zero_le _⟩
  · obtain ⟨t0, ts', ets⟩ : ∃ a b, ts = a :: b := by cases ts with | nil => simp at hb | cons a b => exact ⟨a, b, rfl⟩
    obtain ⟨c0, hc0, hm0⟩ := hts.fwd t0 (by rw [ets]; exact List.mem_cons_self)
    have h63 := hts.len
    have h9 := hm0.2.len
    refine tr_ret ((en_sortLT (p := fun zs => zs = (keysM t0.2).filter fun k => ts.all fun t => decide ((valM t.2 k).getD 0 = t.1)) ((en_lc (b := fun k => ts.all fun t => decide ((valM t.2 k).getD 0 = t.1)) (q := fun (k z : List Int) => z = k) (ei_keys (p := (· = t0.2)) (ev_ixP2 (r1 := qI) (r2 := qD T.P T.w T.K qI) (p := (· = t0)) (ev_ixL (p := (· = ts)) (ev_var rfl) (fun _ _ => ev_int) ?_) ?_) tg_name) (by decide) ?_ ?_ fun _ _ k _ _ => ev_var rfl).imp ?_).ev ?_).ev) hR ?_
    · rintro _ _ rfl rfl
      exact ⟨t0, by omega, by rw [ets]; rfl, rfl⟩
    · rintro _ rfl; rfl
    · rintro _ ⟨_, rfl, rfl⟩; rw [List.length_map]; omega
    · intro ks hks k hk
      refine et_B (ev_all (p := (· = ts.map fun t => decide ((valM t.2 k).getD 0 = t.1))) ((en_lc (b := fun _ => true) (q := fun (t : Int × DM Int) (z : Bool) => z = decide ((valM t.2 k).getD 0 = t.1)) (ei_list (p := (· = ts)) (ev_var rfl) tg_pair) (by decide) ?_ (fun _ _ _ _ => et_yes) fun _ _ t _ _ => ev_eqID (x := (valM t.2 k).getD 0) (ev_dget2 (r := qI) (p := (· = t.2)) (pk := (· = k)) (px := (· = 0)) (ed_var rfl) (ev_var rfl) ev_int ?_) (ev_var rfl)).ev.imp ?_) ?_)
      · rintro _ rfl; omega
      · rintro _ _ _ rfl rfl rfl; rfl
      · rintro z ⟨_, rfl, h⟩
        rw [filter_true'] at h
        exact paired_eq (f := fun t : Int × DM Int => decide ((valM t.2 k).getD 0 = t.1)) h
      · rintro _ rfl
        rw [List.all_map]; rfl
    · rintro z ⟨_, ⟨_, rfl, rfl⟩, h⟩
      rw [paired_eq (f := fun k : List Int => k) h, List.map_id']
      rfl
    · rintro _ rfl
      refine ⟨?_, fun k hk => ?_⟩
      · refine Nat.le_trans (List.length_filter_le _ _) ?_
        unfold keysM
        rw [List.length_map]; omega
      · obtain ⟨i, j, e, _, _⟩ := hm0.2.key k (List.mem_filter.mp hk).1
        rw [e]; simp
    · rintro z ⟨_, rfl, hz⟩
      refine ⟨fun k hk => ?_, fun hno => (hno c0 hc0).elim, ?_⟩
      · have hk := hz.mem_iff.mp hk
        obtain ⟨hk1, hk2⟩ := List.mem_filter.mp hk
        obtain ⟨p, e, _⟩ := (hm0.2.mem k).mp hk1
        refine ⟨p, e, fun c hc => ?_⟩
        obtain ⟨t, ht, ht1, ht2⟩ := hts.bwd c hc
        have := of_decide_eq_true (List.all_eq_true.mp hk2 t ht)
        show Mcol sc x y c p = (Suf sc x y 0 0 0).count c
        rw [e, ht2.val p, ht1] at this
        split at this
        · rename_i h0
          have this : (0 : Int) = _ := this
          omega
        · have this : (Mcol sc x y c p : Int) = _ := this
          omega
      · rw [hz.length_eq]
        refine Nat.le_trans (List.length_filter_le _ _) ?_
        unfold keysM
        rw [List.length_map]; exact h9
abbrev s_possible_for_some : Stmt := topS 55
abbrev N_possible_for_some : List Str := ["scheme", "examples", "first", "second", "pairs", "whole", "told", "pair"]
theorem sc_possible_for_some : FnScope N_possible_for_some ["scheme", "examples", "first", "second"] (defScope s_possible_for_some) := ⟨rfl, rfl, rfl, by decide +kernel, rfl, by decide +kernel, by decide +kernel⟩
theorem nd_possible_for_some : N_possible_for_some.Nodup := by decide +kernel
theorem bd_possible_for_some (kV doc pm : Value) (an : Option Addr) (cdv ct : Value) (us : List Value) (hl : us.length = List.length (α := Str) ["scheme", "examples", "first", "second"]) : bindArgs (PySem.W.fnOf "possible_for_some" "possible_for_some" (defArgs s_possible_for_some) (defBody s_possible_for_some) (defScope s_possible_for_some) .none kV doc pm an cdv ct) ⟨us, []⟩ = pure (List.zip (α := Str) ["scheme", "examples", "first", "second"] us) := match us, hl with | [_, _, _, _], _ => rfl

abbrev spPossS (CS : Addr) (T : Tx) : Sp := spOf (ι := Sc × List (List Nat × List Nat) × List Nat × List Nat) (fun _ => none) (fun g => [sh (qSc CS) g.1, sh (rL qAl) g.2.1, sh qW g.2.2.1, sh qW g.2.2.2]) (fun g => okG g.1 g.2.1 ∧ okXY (g.1, g.2.2)) (rL (qTI T.K)) (fun g z => PosF g.1 g.2.1 g.2.2.1 g.2.2.2 z)
theorem put_keys {α : Type} {d : DM α} {k : List Int} {v : α} : (∀ k', k' ∈ keysM (putM d k v) ↔ k' ∈ keysM d ∨ k' = k) ∧ (putM d k v).length ≤ d.length + 1 := by
  have e := keys_put (m := d) (k := k) (v := v)
  constructor
  · intro k'
    rw [e]
    split
    · rename_i h
      constructor
      · exact .inl
      · rintro (q | rfl)
        · exact q
        · apply Decidable.byContradiction
          intro z
          rw [valM_none.mpr z] at h
          cases h
    · rw [List.mem_append, List.mem_singleton]
  · have e2 := congrArg List.length e
    unfold keysM at e2
    rw [List.length_map] at e2
    rw [e2]
    split
    · rw [List.length_map]; omega
    · rw [List.length_append, List.length_map]; simp
theorem ok_possible (F : TF T CS CR aS) (c_matches : Cl T 10 "_matches" (spMts CS T)) (D : Dn T "possible_for_some" s_possible_for_some) : Cl T 11 "possible_for_some" (spPossS CS T) := by
  refine cl_def D sc_possible_for_some bd_possible_for_some (fun _ => rfl) fun f cdv A outer s H E hr => ⟨_, (pss_cons (ps_set (i := 4) nd_possible_for_some rfl (Or.inl rfl) (xd_new (P := T.P) (w := T.w) rfl rfl))
      (pss_cons (ps_for PassesOwn.never rfl (piL (⟨rfl, rfl, rfl, rfl, rfl⟩ : At _ T) (pc c_matches (⟨rfl, rfl, rfl, rfl, rfl⟩ : At _ T) hr (by decide) rfl (pa_cons (pv 0) (pa_cons (pv 1) (pa_cons (pv 2) (pa_cons (pv 3) pa_nil)))))) (pgT 2 (⟨rfl, rfl, rfl, rfl, rfl⟩ : At _ T) rfl (pgs_cons (pg_name (i := 5) nd_possible_for_some rfl (.inl rfl) (.inl rfl)) (pgs_cons (pg_name (i := 6) nd_possible_for_some rfl (.inl rfl) (.inl rfl)) pgs_nil))) (pss_one (ps_for PassesOwn.never rfl (xi_keys (P := T.P) (w := T.w) rfl rfl (pv 6)) (pg_name (i := 7) nd_possible_for_some rfl (.inl rfl) (.inl rfl)) (pss_one (xs_put (P := T.P) (w := T.w) (K := T.K) rfl rfl rfl (hu_of hr) (pv 4) (pv 7) pe_bl rfl)))))
      (pss_one (ps_ret (pb (⟨rfl, rfl, rfl, rfl, rfl⟩ : At _ T) (cSortD (⟨rfl, rfl, rfl, rfl, rfl⟩ : At _ T) hr) rfl F.sorted boot_sorted (pa_cons (pv 4) pa_nil)))))), ?_⟩
  rintro ⟨sc, exs, x, y⟩ Fm D eb ⟨hok, hxy⟩ hR -
  have hok : okG sc exs := hok
  have hxy : okXY (sc, x, y) := hxy
  show Tr Fm [some (sh (qSc CS) sc), some (sh (rL qAl) exs), some (sh qW x), some (sh qW y), none, none, none, none] _ _
  refine tr_asgNDE (K := T.K) (r := qB) (d := []) end_nil ?_
  refine tr_forS (S := DM Bool) (ei_list (p := fun z => MtF sc exs x y z) (ev_call4D (ev_var rfl) (ev_var rfl) (ev_var rfl) (ev_var rfl) (sc, exs, x, y) rfl ⟨hok, hxy⟩ fun _ h => h) tg_pair) (fun ts i d => (∀ k, k ∈ keysM d ↔ ∃ t ∈ ts.take i, k ∈ keysM t.2) ∧ d.length ≤ 9 * i) (fun d => [some (sh (qSc CS) sc), some (sh (rL qAl) exs), some (sh qW x), some (sh qW y), some (ownD T.P T.w T.K qB d), none, none, none]) ?_ ?_ ?_
  · rintro xs -
    exact ⟨[], ⟨fun k => by simp [keysM], by simp⟩, (by repeat (first | exact lss_nil | apply lss_some | apply lss_none))⟩
  · intro ts hts B i t ht d ⟨hd1, hd2⟩
    have hi : i < ts.length := (List.getElem?_eq_some_iff.mp ht).1
    have h63 := hts.len
    obtain ⟨c, hc, hm⟩ := hts.fwd t (List.mem_of_getElem? ht)
    have h9 := hm.2.len
    show Tr _ [some (sh (qSc CS) sc), some (sh (rL qAl) exs), some (sh qW x), some (sh qW y), some (ownD T.P T.w T.K qB d), some (sh qI t.1), some (sh (qD T.P T.w T.K qI) t.2), none] _ _
    refine tr_last (tr_forS (S := DM Bool) (ei_keys (p := (· = t.2)) (ev_var rfl) tg_name) (fun ks j e => (∀ k, k ∈ keysM e ↔ k ∈ keysM d ∨ k ∈ ks.take j) ∧ e.length ≤ d.length + j) (fun e => [some (sh (qSc CS) sc), some (sh (rL qAl) exs), some (sh qW x), some (sh qW y), some (ownD T.P T.w T.K qB e), some (sh qI t.1), some (sh (qD T.P T.w T.K qI) t.2), none]) ?_ ?_ ?_)
    · rintro ks -
      exact ⟨d, ⟨fun k => by simp, Nat.le_refl _⟩, (by repeat (first | exact lss_nil | apply lss_some | apply lss_none))⟩
    · rintro ks ⟨d', e1, hks⟩ B j k hk e ⟨he1, he2⟩
      have hkl : ks.length ≤ 9 := by rw [hks, List.length_map, e1]; exact h9
      have hj : j < ks.length := (List.getElem?_eq_some_iff.mp hk).1
      show Tr _ [some (sh (qSc CS) sc), some (sh (rL qAl) exs), some (sh qW x), some (sh qW y), some (ownD T.P T.w T.K qB e), some (sh qI t.1), some (sh (qD T.P T.w T.K qI) t.2), some (sh (qTI T.K) k)] _ _
      refine tr_last (tr_putD (i := 4) (r := qB) (x := true) (kk := k) rfl ev_bl (ev_var rfl) (by omega) ?_)
      obtain ⟨p1, p2⟩ := put_keys (d := e) (k := k) (v := true)
      refine tr_nx rfl (putM e k true) ⟨fun k' => ?_, by omega⟩ (by repeat (first | exact lss_nil | apply lss_some | apply lss_none))
      rw [p1, he1, take_succ' hk, List.mem_append, List.mem_singleton, or_assoc]
    · rintro ks ⟨d', e1, hks⟩ e ⟨he1, he2⟩
      have hkl : ks.length ≤ 9 := by rw [hks, List.length_map, e1]; exact h9
      rw [List.take_length] at he1
      refine tr_nx rfl e ⟨fun k => ?_, by omega⟩ (by repeat (first | exact lss_nil | apply lss_some | apply lss_none))
      rw [he1, hd1, take_succ' ht]
      have ek : ks = keysM t.2 := by rw [hks, e1]; rfl
      rw [ek]
      constructor
      · rintro (⟨t', q1, q2⟩ | q)
        · exact ⟨t', List.mem_append_left _ q1, q2⟩
        · exact ⟨t, List.mem_append_right _ List.mem_cons_self, q⟩
      · rintro ⟨t', q1, q2⟩
        rcases List.mem_append.mp q1 with q1 | q1
        · exact .inl ⟨t', q1, q2⟩
        · rw [List.mem_singleton.mp q1] at q2; exact .inr q2
  · intro ts hts d ⟨hd1, hd2⟩
    rw [List.take_length] at hd1
    have h63 := hts.len
    have key : ∀ k, k ∈ keysM d ↔ ∃ (c : List Int) (p : Nat × Nat), Fits sc exs x y c ∧ k = [(p.1 : Int), (p.2 : Int)] ∧ Mcol sc x y c p ≠ 0 := fun k => by
      rw [hd1]
      constructor
      · rintro ⟨t, ht, hk⟩
        obtain ⟨c, hc, hm⟩ := hts.fwd t ht
        obtain ⟨p, e, hp⟩ := (hm.2.mem k).mp hk
        exact ⟨c, p, hc, e, hp⟩
      · rintro ⟨c, p, hc, e, hp⟩
        obtain ⟨t, ht, hm⟩ := hts.bwd c hc
        exact ⟨t, ht, (hm.2.mem k).mpr ⟨p, e, hp⟩⟩
    refine tr_ret (en_sortD (r := qB) (p := (· = d)) (ed_own rfl) ?_).ev hR ?_
    · rintro _ rfl q hq
      have : q.1 ∈ keysM _ := List.mem_map.mpr ⟨q, hq, rfl⟩
      obtain ⟨c, p, _, e, _⟩ := (key q.1).mp this
      rw [e]; simp
    · rintro z ⟨_, rfl, hz⟩
      refine ⟨fun k => ?_, by rw [hz.length_eq, List.length_map]; omega⟩
      rw [hz.mem_iff]
      exact key k
end
end Rf
/-! Lc: what the law's defs want. -/
namespace Rf
open PySem PySem.Spec PyProof.Rows L2
section
variable {β : Option Addr} {Γ : EnvA} {te ta tb : TE} {tr : TA} {K : PySem.W.Frag} {α : Type} {r : RP α}
/-- arguments of one kind -/
def EvLs (β : Option Addr) (ta : TA) (Γ : EnvA) {α : Type} (r : RP α) (p : List α → Prop) : Prop :=
  ∀ (H0 : Hp) (σ : L2.St) (A H : Hp), Rel β H0 Γ σ A H → ∀ Q : List V → Hp → Prop, (∀ vs xs B H', Grow β A H B H' → p xs → Paired (r B) vs xs → Q vs H') → ta σ H Q
theorem el_nil : EvLs β tNil Γ r (· = []) := fun H0 σ A H R Q q => q [] [] A H (Grow.refl R.sub) rfl .nil
theorem el_cons [m : Mono r] {x : α} {xs : List α} (h : Ev β te Γ r (· = x)) (hr : EvLs β tr Γ r (· = xs)) : EvLs β (tCons te tr) Γ r (· = x :: xs) := fun H0 σ A H R Q q =>
  h H0 σ A H R _ fun v y B H1 g ey ry => hr H0 σ B H1 (R.grow g) _ fun vs ys C H2 g2 eys rys => by
    subst ey; subst eys
    exact q (v :: vs) _ C H2 (g.trans g2) rfl (.cons (m.le g2.le ry) rys)
theorem en_lst {xs : List α} (h : EvLs β tr Γ r (· = xs)) (hl : xs.length ≤ 1000) : EvN β (tLst tr) Γ r (· = xs) := fun H0 σ A H R Q q =>
  h H0 σ A H R _ fun vs ys B H1 g e rs => by
    subst e
    have hlen : vs.length = ys.length := Paired.length rs
    refine ⟨Nat.le_trans (by omega : vs.length ≤ 1000) (by decide), fun l hl => q l vs ys B _ (g.trans (Grow.newOwn g.sub hl)) (R.back g hl) (g.sub.no hl) upd_same rfl rs⟩
end
/-- if at < len(box[0]): return int(box[0][at]) % many -/
theorem tr_boxDraw {F : Fr} {Γ : EnvA} {D : Ends} {u : TS} {K : PySem.W.Frag} {b : Addr} {m n : Int} (hβ : F.bx = some b) (h0 : Γ[0]? = some (some (boxE b))) (h1 : Γ[1]? = some (some (sh qI m))) (h2 : Γ[2]? = some (some (sh qI n))) (hn : 0 ≤ n) (hm : 0 < m) (hR : Rt F qI (fun z => 0 ≤ z ∧ z < m) D.rt) (k : Tr F Γ u D) :
    Tr F Γ (tSeq (tIfS (tTest (tOp (rI0 fun i j => .bl (decide (i < j))) (tVar 2) (tCB (rLen2 K) (tCons (tOp (rIxL K) (tVar 0) (tC (.int 0))) tNil)))) (tRet (tOp (L2.rI (fun _ j => 0 < j) fun i j => .int (i % j)) (tCB rInt1 (tCons (tOp (rIxL K) (tOp (rIxL K) (tVar 0) (tC (.int 0))) (tVar 2)) tNil)) (tVar 1))) tNext) u) D := fun σ H st => by
  have st' := st
  obtain ⟨A, l, g, R⟩ := st
  obtain ⟨v0, g0, e0, _⟩ := R.ent 0 _ h0
  obtain ⟨v1, g1, e1, _⟩ := R.ent 1 _ h1
  obtain ⟨v2, g2, e2, _⟩ := R.ent 2 _ h2
  have e0 : v0 = .ref b := e0
  have e1 : v1 = .int m := e1
  have e2 : v2 = .int n := e2
  subst e0; subst e1; subst e2
  obtain ⟨q1, ro, xs, w, f1, f2, f3, f4⟩ := R.boxOk hβ
  have row : SqL K H ro (xs.map V.int) := SqL.of (R.sub _ _ f2)
  refine ⟨_, g2, _, g0, b, _, 0, _, rfl, rfl, SqL.of f1, rfl, ro, _, rfl, .inl row, n, _, rfl, rfl, _, rfl, ?_⟩
  show if decide (n < ((xs.map V.int).length : Int)) = true then _ else _
  split
  · rename_i hlt
    have hlt := of_decide_eq_true hlt
    have hi : n.toNat < xs.length := by rw [List.length_map] at hlt; omega
    have at_ : atI (xs.map V.int) n = some (.int xs[n.toNat]) := atI_int hn (by rw [List.getElem?_map, List.getElem?_eq_getElem hi]; rfl)
    refine ⟨_, g0, b, _, 0, _, rfl, rfl, SqL.of f1, rfl, _, g2, ro, _, n, _, rfl, rfl, row, at_, .inl ⟨_, rfl, _, g1, _, m, rfl, rfl, hm, ?_⟩⟩
    exact hR _ (xs[n.toNat] % m) A H g ⟨Int.emod_nonneg _ (by omega), Int.emod_lt_of_pos _ hm⟩ rfl
  · exact k σ H st'
/-- * where one factor is short -/
def CMulS (i j : Int) : Prop := i.natAbs < 2 ^ 63 ∨ j.natAbs < 2 ^ 63
theorem short_bits {x : Int} (h : x.natAbs < 2 ^ 63) : Builtin.Int.intBits x ≤ 64 := by
  have y := PySem.Flt.log2_lt_of (by decide : 0 < 63) h
  unfold Builtin.Int.intBits
  split <;> omega
theorem CMulS.ok {i j : Int} (h : CMulS i j) : IntMulOk i j := by
  rcases h with h | h
  · exact IntMulOk.of_left (short_bits h)
  · exact IntMulOk.of_right (short_bits h)
theorem op_mulS {X : Cx} : OpR X (binaryOp .Mult) (L2.rI CMulS fun i j => .int (i * j)) := opI fun _ _ _ _ _ _ _ hc q => mul_int q hc.ok
end Rf
/-! Mz: the law's own meaning, in plain Lean. -/
namespace Rf
open Rf.Dd
theorem dt_sub : ∀ (a b w : List Int), a.length = b.length → dt (zw (· - ·) a b) w = dt a w - dt b w
  | [], [], _, _ => by simp [dt, zw]
  | x :: a, y :: b, [], _ => by simp [dt, zw]
  | x :: a, y :: b, v :: w, h => by
    have ih := dt_sub a b w (by simpa using h)
    unfold dt zw at ih ⊢
    simp only [List.zipWith_cons_cons, List.sum_cons]
    rw [ih, Int.sub_mul]; omega
  | [], _ :: _, _, h => by simp at h
  | _ :: _, [], _, h => by simp at h
theorem below_lt : ∀ (a b w : List Int), a.length = b.length → a.length = w.length → (∀ v ∈ w, 0 < v) → ((a.zip b).all fun p => decide (p.1 ≤ p.2)) = true → a = b ∨ dt a w < dt b w
  | [], [], _, _, _, _, _ => .inl rfl
  | x :: a, y :: b, v :: w, h1, h2, hp, h => by
    rw [List.zip_cons_cons, List.all_cons, Bool.and_eq_true, decide_eq_true_eq] at h
    obtain ⟨hxy, h⟩ := h
    have hxy : x ≤ y := hxy
    have hv := hp v List.mem_cons_self
    have ih := below_lt a b w (by simpa using h1) (by simpa using h2) (fun u hu => hp u (List.mem_cons_of_mem _ hu)) h
    have e1 : dt (x :: a) (v :: w) = x * v + dt a w := by unfold dt; simp only [List.zipWith_cons_cons, List.sum_cons]
    have e2 : dt (y :: b) (v :: w) = y * v + dt b w := by unfold dt; simp only [List.zipWith_cons_cons, List.sum_cons]
    have hle : x * v ≤ y * v := Int.mul_le_mul_of_nonneg_right hxy (by omega)
    rw [e1, e2]
    rcases ih with rfl | ih
    · rcases Int.lt_or_eq_of_le hxy with q | q
      · have := Int.mul_lt_mul_of_pos_right q hv
        right; omega
      · left; rw [q]
    · right; omega
  | [], _ :: _, _, h, _, _, _ => by simp at h
  | _ :: _, [], _, h, _, _, _ => by simp at h
  | _ :: _, _ :: _, [], _, h, _, _ => by simp at h
theorem least_of {α : Type} (f : α → Int) : ∀ l : List α, l ≠ [] → ∃ m ∈ l, ∀ o ∈ l, f m ≤ f o
  | [], h => (h rfl).elim
  | [a], _ => ⟨a, List.mem_cons_self, fun o ho => by rw [List.mem_singleton.mp ho]; exact Int.le_refl _⟩
  | a :: b :: l, _ => by
    obtain ⟨m, hm, hl⟩ := least_of f (b :: l) (by simp)
    by_cases q : f a ≤ f m
    · refine ⟨a, List.mem_cons_self, fun o ho => ?_⟩
      rcases List.mem_cons.mp ho with rfl | ho
      · exact Int.le_refl _
      · exact Int.le_trans q (hl o ho)
    · refine ⟨m, List.mem_cons_of_mem _ hm, fun o ho => ?_⟩
      rcases List.mem_cons.mp ho with rfl | ho
      · omega
      · exact hl o ho
def bestL (sc : Sc) (x y : List Nat) (c : List Int) : List (List Nat × List Nat) := (Al x y).filter fun al => decide (∀ o ∈ Al x y, dt (countsF sc al) c ≤ dt (countsF sc o) c)
theorem suf_eq (sc : Sc) (x y : List Nat) : Suf sc x y 0 0 0 = (Al x y).map (countsF sc) := by
  unfold Suf
  rw [List.drop_zero, List.drop_zero]
  exact List.map_congr_left fun al _ => (counts_cnt sc al).symm
theorem cnt_len (sc : Sc) (al : List Nat × List Nat) : (countsF sc al).length = sc.size.toNat := by rw [counts_cnt]; exact cntA_len _ _ _
section
variable {sc : Sc} {exs : List (List Nat × List Nat)} {x y : List Nat} {w : List Int}
theorem least_mn (hw : w.length = sc.size.toNat) (hp : ∀ v ∈ w, 0 < v) {m : List Int} (hm : m ∈ Suf sc x y 0 0 0) (hl : ∀ o ∈ Suf sc x y 0 0 0, dt m w ≤ dt o w) : Mn sc x y m := by
  refine ⟨hm, fun o ho => ?_⟩
  cases q : belowF o m with
  | false => rfl
  | true =>
    exfalso
    unfold belowF at q
    rw [Bool.and_eq_true, Bool.not_eq_true', decide_eq_false_iff_not] at q
    have h1 := suf_mem_len ho
    have h2 := suf_mem_len hm
    rcases below_lt o m w (by omega) (by omega) hp q.2 with e | e
    · exact q.1 e
    · have := hl o ho
      omega
theorem mem_best {al : List Nat × List Nat} : al ∈ bestL sc x y w ↔ al ∈ Al x y ∧ ∀ o ∈ Al x y, dt (countsF sc al) w ≤ dt (countsF sc o) w := by
  unfold bestL
  rw [List.mem_filter, decide_eq_true_eq]
theorem fits_best (hw : InCone sc exs w) {al : List Nat × List Nat} (h : al ∈ bestL sc x y w) : Fits sc exs x y (countsF sc al) := by
  obtain ⟨h1, h2⟩ := mem_best.mp h
  have hs : countsF sc al ∈ Suf sc x y 0 0 0 := by rw [suf_eq]; exact List.mem_map_of_mem h1
  have hl : ∀ o ∈ Suf sc x y 0 0 0, dt (countsF sc al) w ≤ dt o w := fun o ho => by
    rw [suf_eq] at ho
    obtain ⟨a, ha, rfl⟩ := List.mem_map.mp ho
    exact h2 a ha
  refine ⟨least_mn hw.1 hw.2.1 hs hl, w, hw, fun o ho => ?_⟩
  rw [dt_sub _ _ _ (by rw [suf_mem_len ho.1, cnt_len])]
  have := hl o ho.1
  omega
theorem cone_of {c : List Int} (hl : c.length = sc.size.toNat) (hp : ∀ v ∈ c, 0 < v) (h : ∀ e ∈ exs, e ∈ bestL sc (bareF e.1) (bareF e.2) c) : InCone sc exs c := by
  refine ⟨hl, hp, fun e he o ho => ?_⟩
  obtain ⟨_, h2⟩ := mem_best.mp (h e he)
  rw [dt_sub _ _ _ (by rw [suf_mem_len ho.1, cnt_len])]
  have hs := ho.1
  rw [suf_eq] at hs
  obtain ⟨a, ha, rfl⟩ := List.mem_map.mp hs
  have := h2 a ha
  omega
/-- an example's own counts -/
theorem own_best (hw : InCone sc exs w) {e : List Nat × List Nat} (he : e ∈ exs) (hal : e ∈ Al (bareF e.1) (bareF e.2)) : e ∈ bestL sc (bareF e.1) (bareF e.2) w := by
  refine mem_best.mpr ⟨hal, fun o ho => ?_⟩
  have hs : countsF sc e ∈ Suf sc (bareF e.1) (bareF e.2) 0 0 0 := by rw [suf_eq]; exact List.mem_map_of_mem hal
  obtain ⟨m, hm, hl⟩ := least_of (fun o => dt o w) (Suf sc (bareF e.1) (bareF e.2) 0 0 0) (fun z => by rw [z] at hs; cases hs)
  have h1 := hw.2.2 e he m (least_mn hw.1 hw.2.1 hm hl)
  rw [dt_sub _ _ _ (by rw [suf_mem_len hm, cnt_len])] at h1
  have h2 := hl (countsF sc o) (by rw [suf_eq]; exact List.mem_map_of_mem ho)
  have h2 : dt m w ≤ dt (countsF sc o) w := h2
  omega
/-! ### told -/
def colsT (al : List Nat × List Nat) : List (List Int) := (colsA 0 0 al).map fun p => [(p.1 : Int), (p.2 : Int)]
abbrev Told := List (List Int) × List (List Int) × List (List Int)
structure HoldP (sc : Sc) (t : Told) (al : List Nat × List Nat) : Prop where
  a : countsF sc al ∈ t.1
  b : ∀ k ∈ t.2.1, k ∈ colsT al
  c : ∀ k ∈ colsT al, k ∈ t.2.2
structure TellF (sc : Sc) (exs : List (List Nat × List Nat)) (x y : List Nat) (t : Told) : Prop where
  a : BestF sc exs x y t.1
  b : CerF sc exs x y t.2.1
  c : PosF sc exs x y t.2.2
theorem filt_le {α : Type} (p q : α → Bool) : ∀ l : List α, (l.filter fun a => p a && q a).length ≤ (l.filter p).length
  | [] => Nat.le_refl _
  | a :: l => by
    have ih := filt_le p q l
    rw [List.filter_cons, List.filter_cons]
    cases hp : p a <;> cases hq : q a <;> simp <;> omega
theorem filt_all {α : Type} (p q : α → Bool) : ∀ l : List α, (l.filter fun a => p a && q a).length = (l.filter p).length → ∀ a ∈ l, p a = true → q a = true
  | [], _, _, h, _ => nomatch h
  | b :: l, h, a, ha, hpa => by
    have hle := filt_le p q l
    rw [List.filter_cons, List.filter_cons] at h
    cases hp : p b <;> cases hq : q b <;> simp [hp, hq] at h
    · rcases List.mem_cons.mp ha with rfl | ha
      · rw [hp] at hpa; cases hpa
      · exact filt_all p q l h a ha hpa
    · rcases List.mem_cons.mp ha with rfl | ha
      · rw [hp] at hpa; cases hpa
      · exact filt_all p q l h a ha hpa
    · omega
    · rcases List.mem_cons.mp ha with rfl | ha
      · exact hq
      · exact filt_all p q l h a ha hpa
theorem count_suf (c : List Int) : (Suf sc x y 0 0 0).count c = ((Al x y).filter fun al => decide (cntA sc 0 al = c)).length := by
  unfold Suf
  rw [List.drop_zero, List.drop_zero, List.count_eq_length_filter, filter_map_len]
  congr 1
  exact List.filter_congr fun al _ => Bool.beq_eq_decide_eq _ _
theorem hold_of {t : Told} (h : TellF sc exs x y t) {al : List Nat × List Nat} (hal : al ∈ Al x y) (hf : Fits sc exs x y (countsF sc al)) : HoldP sc t al := by
  refine ⟨(h.a.mem _).mpr hf, fun k hk => ?_, fun k hk => ?_⟩
  · obtain ⟨p, rfl, hp⟩ := h.b.mem k hk
    have hp := hp _ hf
    rw [count_suf] at hp
    unfold Mcol at hp
    have := filt_all _ _ _ hp al hal (decide_eq_true (counts_cnt sc al).symm)
    exact List.mem_map.mpr ⟨p, of_decide_eq_true this, rfl⟩
  · obtain ⟨p, hp, rfl⟩ := List.mem_map.mp hk
    refine (h.c.mem _).mpr ⟨_, p, hf, rfl, ?_⟩
    unfold Mcol
    intro z
    have := List.eq_nil_of_length_eq_zero z
    have hm : al ∈ (Al x y).filter fun al' => decide (cntA sc 0 al' = countsF sc al) && decide (p ∈ colsA 0 0 al') := List.mem_filter.mpr ⟨hal, by rw [decide_eq_true (counts_cnt sc al).symm, decide_eq_true hp]; rfl⟩
    rw [this] at hm
    cases hm
theorem tell_none {t : Told} (h : TellF sc exs x y t) (no : ∀ c, ¬ InCone sc exs c) : t = ([], [], []) := by
  have nf : ∀ c, ¬ Fits sc exs x y c := fun c ⟨_, w, hw, _⟩ => no w hw
  obtain ⟨t1, t2, t3⟩ := t
  have e1 : t1 = [] := List.eq_nil_iff_forall_not_mem.mpr fun c hc => nf c ((h.a.mem c).mp hc)
  have e2 : t2 = [] := h.b.emp nf
  have e3 : t3 = [] := List.eq_nil_iff_forall_not_mem.mpr fun k hk => by
    obtain ⟨c, _, hc, _⟩ := (h.c.mem k).mp hk
    exact nf c hc
  rw [e1, e2, e3]
/-- a row of costs -/
structure RowC (sc : Sc) (c : List Int) : Prop where
  len : c.length = sc.size.toNat
  pos : ∀ v ∈ c, 0 < v
  small : ∀ v ∈ c, v.natAbs < 2 ^ 210
theorem row_small {c : List Int} (h1 : c.length = sc.size.toNat) (h2 : ∀ v ∈ c, 1 ≤ v ∧ v ≤ 5) : RowC sc c := ⟨h1, fun v hv => by have := h2 v hv; omega, fun v hv => by
  have := h2 v hv
  have h3 : v.natAbs ≤ 5 := by omega
  exact Nat.lt_of_le_of_lt h3 (by decide)⟩
theorem row_found {c : List Int} (h : InCone sc exs c) (hs : ∀ v ∈ c, v.natAbs < 2 ^ 200) : RowC sc c := ⟨h.1, h.2.1, fun v hv => Nat.lt_trans (hs v hv) (by decide)⟩
theorem row_three {c : List Int} (h : InCone sc exs c) (hs : ∀ v ∈ c, v.natAbs < 2 ^ 200) : RowC sc (c.map fun v => 3 * v) := ⟨by rw [List.length_map]; exact h.1, fun v hv => by
  obtain ⟨u, hu, rfl⟩ := List.mem_map.mp hv
  have := h.2.1 u hu
  omega, fun v hv => by
  obtain ⟨u, hu, rfl⟩ := List.mem_map.mp hv
  have := hs u hu
  have h3 : (3 * u).natAbs = 3 * u.natAbs := by rw [Int.natAbs_mul]; rfl
  rw [h3]
  refine Nat.lt_of_lt_of_le (Nat.mul_lt_mul_of_pos_left this (by decide)) ?_
  decide⟩
end
end Rf
/-! Lr: rules for the law's defs: the script, lists of different things, rests of words, draws. -/
namespace Rf
open PySem PySem.Spec PyProof.Rows L2

/-! ### the script: a list that may be frozen -/
theorem Le.sql {K : PySem.W.Frag} {A B : Hp} {a : Addr} {xs : List V} (x : Le A B) (h : SqL K A a xs) : SqL K B a xs := by
  rcases h with (h | ⟨o, h⟩) | h
  · exact .inl (.inl (x.lst h))
  · exact .inl (.inr ⟨o, x.frz h⟩)
  · exact .inr h
def qSq (K : PySem.W.Frag) : RP (List Int) := fun A v xs => ∃ a, v = .ref a ∧ SqL K A a (xs.map V.int)
instance (K : PySem.W.Frag) : Mono (qSq K) := ⟨fun l ⟨a, h1, h2⟩ => ⟨a, h1, l.sql h2⟩⟩
/-! ### lists of two, of three things of different kinds -/
def qL2 {γ δ : Type} (r1 : RP γ) (r2 : RP δ) : RP (γ × δ) := fun A v x => ∃ (a : Addr) (v1 v2 : V), v = .ref a ∧ A a = some (.lst [v1, v2]) ∧ r1 A v1 x.1 ∧ r2 A v2 x.2
def qL3 {γ δ κ : Type} (r1 : RP γ) (r2 : RP δ) (r3 : RP κ) : RP (γ × δ × κ) := fun A v x => ∃ (a : Addr) (v1 v2 v3 : V), v = .ref a ∧ A a = some (.lst [v1, v2, v3]) ∧ r1 A v1 x.1 ∧ r2 A v2 x.2.1 ∧ r3 A v3 x.2.2
instance {γ δ : Type} (r1 : RP γ) (r2 : RP δ) [m1 : Mono r1] [m2 : Mono r2] : Mono (qL2 r1 r2) := ⟨fun l ⟨a, v1, v2, h1, h2, h3, h4⟩ => ⟨a, v1, v2, h1, l.lst h2, m1.le l h3, m2.le l h4⟩⟩
instance {γ δ κ : Type} (r1 : RP γ) (r2 : RP δ) (r3 : RP κ) [m1 : Mono r1] [m2 : Mono r2] [m3 : Mono r3] : Mono (qL3 r1 r2 r3) := ⟨fun l ⟨a, v1, v2, v3, h1, h2, h3, h4, h5⟩ => ⟨a, v1, v2, v3, h1, l.lst h2, m1.le l h3, m2.le l h4, m3.le l h5⟩⟩
section
variable {K : PySem.W.Frag} {β : Option Addr} {Γ : EnvA} {α γ δ κ : Type} {r : RP α} {r1 : RP γ} {r2 : RP δ} {r3 : RP κ} {te ta tb tc : TE} {pi pj pk : Int → Prop} {pb : Bool → Prop} {pw : List Nat → Prop}
theorem ev_lenSq {xs : List Int} (h : Ev β ta Γ (qSq K) (· = xs)) : Ev β (tCB (rLen2 K) (tCons ta tNil)) Γ qI (· = (xs.length : Int)) := fun H0 σ A H R Q q =>
  h H0 σ A H R _ fun v x B H1 g px ⟨l, e, h1⟩ => by
    subst px
    refine ⟨l, _, by rw [e], .inl (g.sub.le.sql h1), ?_⟩
    rw [List.length_map]
    exact q _ _ B H1 g rfl rfl
theorem ev_ixSq {xs : List Int} {n : Nat} (ha : Ev β ta Γ (qSq K) (· = xs)) (hb : Ev β tb Γ qI (· = (n : Int))) (hn : n < xs.length) : Ev β (tOp (rIxL K) ta tb) Γ qI (fun _ => True) :=
  ev_op ha (fun _ _ => hb) fun ys i px py A H s v w hv hw Q q => by
    subst px py
    obtain ⟨l, rfl, h1⟩ := hv
    cases hw
    exact ⟨l, _, _, .int ys[n], rfl, rfl, s.le.sql h1, atI_nat (by rw [List.getElem?_map, List.getElem?_eq_getElem hn]; rfl), q _ _ A H (Grow.refl s) trivial rfl⟩
theorem ev_l2 [m1 : Mono r1] [m2 : Mono r2] {p1 : γ → Prop} {p2 : δ → Prop} (h1 : Ev β ta Γ r1 p1) (h2 : Ev β tb Γ r2 p2) : Ev β (tLst (tCons ta (tCons tb tNil))) Γ (qL2 r1 r2) fun z => p1 z.1 ∧ p2 z.2 := fun H0 σ A H R Q q =>
  h1 H0 σ A H R _ fun v x B H1 g px rx => h2 H0 σ B H1 (R.grow g) _ fun w y C H2 g2 py ry => ⟨by show 2 ≤ sizeLine; decide, fun a ha =>
    q (.ref a) (x, y) (upd C a (.lst [v, w])) _ ((g.trans g2).trans (Grow.new g2.sub ha)) ⟨px, py⟩ ⟨a, v, w, rfl, upd_same, m1.le (g2.le.trans (le_new (g2.sub.no ha))) rx, m2.le (le_new (g2.sub.no ha)) ry⟩⟩
theorem ev_l3 [m1 : Mono r1] [m2 : Mono r2] [m3 : Mono r3] {p1 : γ → Prop} {p2 : δ → Prop} {p3 : κ → Prop} (h1 : Ev β ta Γ r1 p1) (h2 : Ev β tb Γ r2 p2) (h3 : Ev β tc Γ r3 p3) : Ev β (tLst (tCons ta (tCons tb (tCons tc tNil)))) Γ (qL3 r1 r2 r3) fun z => p1 z.1 ∧ p2 z.2.1 ∧ p3 z.2.2 := fun H0 σ A H R Q q =>
  h1 H0 σ A H R _ fun v x B H1 g px rx => h2 H0 σ B H1 (R.grow g) _ fun w y C H2 g2 py ry => h3 H0 σ C H2 ((R.grow g).grow g2) _ fun u z E H3 g3 pz rz => ⟨by show 3 ≤ sizeLine; decide, fun a ha =>
    q (.ref a) (x, y, z) (upd E a (.lst [v, w, u])) _ (((g.trans g2).trans g3).trans (Grow.new g3.sub ha)) ⟨px, py, pz⟩ ⟨a, v, w, u, rfl, upd_same, m1.le ((g2.le.trans g3.le).trans (le_new (g3.sub.no ha))) rx, m2.le (g3.le.trans (le_new (g3.sub.no ha))) ry, m3.le (le_new (g3.sub.no ha)) rz⟩⟩
theorem ev_cat21 [m1 : Mono r1] [m2 : Mono r2] [m3 : Mono r3] {p : γ × δ → Prop} {p3 : κ → Prop} (h : Ev β ta Γ (qL2 r1 r2) p) (h3 : Ev β tb Γ r3 p3) : Ev β (tOp rCat ta (tLst (tCons tb tNil))) Γ (qL3 r1 r2 r3) fun z => p (z.1, z.2.1) ∧ p3 z.2.2 := fun H0 σ A H R Q q =>
  h H0 σ A H R _ fun v x B H1 g px ⟨l, v1, v2, e, e1, e2, e3⟩ => h3 H0 σ B H1 (R.grow g) _ fun w y C H2 g2 py ry => ⟨by show 1 ≤ sizeLine; decide, fun b hb => by
    subst e
    have hl : H2 l = some (.lst [v1, v2]) := g2.sub _ _ (g2.le.lst e1)
    have hlb : l ≠ b := fun z => by rw [z, hb] at hl; cases hl
    refine ⟨l, b, [v1, v2], [w], rfl, rfl, by rw [upd_ne hlb]; exact hl, upd_same, by show 3 ≤ sizeLine; decide, fun a ha => ?_⟩
    have g3 : Grow β C H2 C (upd H2 b (.lst [w])) := Grow.newOwn g2.sub hb
    have hCa : C a = none := g3.sub.no ha
    exact q (.ref a) (x.1, x.2, y) (upd C a (.lst [v1, v2, w])) _ (((g.trans g2).trans g3).trans (Grow.new g3.sub ha)) ⟨px, py⟩ ⟨a, v1, v2, w, rfl, upd_same, m1.le (g2.le.trans (le_new hCa)) e2, m2.le (g2.le.trans (le_new hCa)) e3, m3.le (le_new hCa) ry⟩⟩
theorem ev_ix30 {x : γ × δ × κ} (ha : Ev β ta Γ (qL3 r1 r2 r3) (· = x)) [Mono r1] [Mono r2] [Mono r3] : Ev β (tOp (rIxL K) ta (tC (.int 0))) Γ r1 (· = x.1) :=
  ev_op ha (fun _ _ => ev_int) fun y i px py A H s v w hv hw Q q => by
    subst px
    obtain ⟨l, v1, v2, v3, rfl, h1, h2, h3, h4⟩ := hv
    cases hw; cases py
    exact ⟨l, _, 0, v1, rfl, rfl, SqL.of (s _ _ h1), rfl, q _ _ A H (Grow.refl s) rfl h2⟩
theorem ev_ix31 {x : γ × δ × κ} (ha : Ev β ta Γ (qL3 r1 r2 r3) (· = x)) [Mono r1] [Mono r2] [Mono r3] : Ev β (tOp (rIxL K) ta (tC (.int 1))) Γ r2 (· = x.2.1) :=
  ev_op ha (fun _ _ => ev_int) fun y i px py A H s v w hv hw Q q => by
    subst px
    obtain ⟨l, v1, v2, v3, rfl, h1, h2, h3, h4⟩ := hv
    cases hw; cases py
    exact ⟨l, _, 1, v2, rfl, rfl, SqL.of (s _ _ h1), rfl, q _ _ A H (Grow.refl s) rfl h3⟩
theorem ev_ix32 {x : γ × δ × κ} (ha : Ev β ta Γ (qL3 r1 r2 r3) (· = x)) [Mono r1] [Mono r2] [Mono r3] : Ev β (tOp (rIxL K) ta (tC (.int 2))) Γ r3 (· = x.2.2) :=
  ev_op ha (fun _ _ => ev_int) fun y i px py A H s v w hv hw Q q => by
    subst px
    obtain ⟨l, v1, v2, v3, rfl, h1, h2, h3, h4⟩ := hv
    cases hw; cases py
    exact ⟨l, _, 2, v3, rfl, rfl, SqL.of (s _ _ h1), rfl, q _ _ A H (Grow.refl s) rfl h4⟩
theorem dat_l3 {e1 : γ → PyData} {e2 : δ → PyData} {e3 : κ → PyData} {o1 : γ → Prop} {o2 : δ → Prop} {o3 : κ → Prop} (h1 : IsDat K r1 e1 o1) (h2 : IsDat K r2 e2 o2) (h3 : IsDat K r3 e3 o3) (n : ∀ x : γ × δ × κ, o1 x.1 ∧ o2 x.2.1 ∧ o3 x.2.2 → (e1 x.1).depth ≤ 5 ∧ (e2 x.2.1).depth ≤ 5 ∧ (e3 x.2.2).depth ≤ 5) :
    IsDat K (qL3 r1 r2 r3) (fun x : γ × δ × κ => .list [e1 x.1, e2 x.2.1, e3 x.2.2]) (fun x : γ × δ × κ => o1 x.1 ∧ o2 x.2.1 ∧ o3 x.2.2) :=
  ⟨fun A H v x s ⟨a, v1, v2, v3, e, g1, g2, g3, g4⟩ => by
    subst e
    exact .lst (SqL.of (s _ _ g1)) (.cons (h1.dp _ _ _ _ s g2) (.cons (h2.dp _ _ _ _ s g3) (.cons (h3.dp _ _ _ _ s g4) .nil))), fun x hx => by
    obtain ⟨q1, _⟩ := h1.lay x.1 hx.1
    obtain ⟨q2, _⟩ := h2.lay x.2.1 hx.2.1
    obtain ⟨q3, _⟩ := h3.lay x.2.2 hx.2.2
    obtain ⟨n1, n2, n3⟩ := n x hx
    refine ⟨by rw [PyData.canLay0, PyData.canLayAll0, PyData.canLayAll0, PyData.canLayAll0, PyData.canLayAll0, q1, q2, q3]; rfl, ?_⟩
    rw [PyData.depth, PyData.depthAll, PyData.depthAll, PyData.depthAll, PyData.depthAll]
    omega, fun x y => by
    rw [PyData.eqv, PyData.eqvAll, PyData.eqvAll, PyData.eqvAll, PyData.eqvAll, Bool.and_eq_true, Bool.and_eq_true, Bool.and_eq_true, h1.eqv, h2.eqv, h3.eqv]
    exact ⟨fun h => Prod.ext h.1 (Prod.ext h.2.1 h.2.2.1), fun h => by rw [h]; exact ⟨rfl, rfl, rfl, rfl⟩⟩⟩
/-- lists of data -/
theorem dat_list {enc : α → PyData} {ok : α → Prop} (D : IsDat K r enc ok) (n : ∀ x, ok x → (enc x).depth ≤ 4) : IsDat K (rL r) (fun xs : List α => .list (xs.map enc)) (fun xs => ∀ x ∈ xs, ok x) ∧ ∀ xs : List α, (∀ x ∈ xs, ok x) → (PyData.list (xs.map enc)).depth ≤ 5 := by
  have hd : ∀ xs : List α, (∀ x ∈ xs, ok x) → (PyData.list (xs.map enc)).depth ≤ 5 := fun xs hx => by
    have := (lay_all (enc := enc) (n := 4) fun y hy => ⟨(D.lay y (hx y hy)).1, n y (hx y hy)⟩).2
    rw [PyData.depth]; omega
  refine ⟨⟨fun A H v x s ⟨l, vs, e, h1, h2⟩ => by
    subst e
    exact .lst (SqL.of (s _ _ h1)) (dpall_lst D.dp s h2), fun x hx => ⟨?_, by have := hd x hx; omega⟩, fun x y => by
    rw [PyData.eqv]; exact eqv_all (fun a b => D.eqv a b) x y⟩, hd⟩
  have := (lay_all (enc := enc) (n := 4) fun y hy => ⟨(D.lay y (hx y hy)).1, n y (hx y hy)⟩).1
  rw [PyData.canLay0]; exact this
theorem dat_tol : IsDat K (qL3 (rL (rL qI)) (rL (qTI K)) (rL (qTI K))) (fun x : Told => .list [.list (x.1.map fun xs => .list (xs.map PyData.int)), .list (x.2.1.map fun xs => .tuple (xs.map PyData.int)), .list (x.2.2.map fun xs => .tuple (xs.map PyData.int))]) (fun x => (∀ a ∈ x.1, True) ∧ (∀ a ∈ x.2.1, True) ∧ ∀ a ∈ x.2.2, True) := by
  have d1 : ∀ xs : List Int, (PyData.list (xs.map PyData.int)).depth ≤ 4 := fun xs => by rw [PyData.depth]; have := (ints_lay xs).2; omega
  have d2 : ∀ xs : List Int, (PyData.tuple (xs.map PyData.int)).depth ≤ 4 := fun xs => by rw [PyData.depth]; have := (ints_lay xs).2; omega
  obtain ⟨q1, q2⟩ := dat_list (K := K) (r := rL qI) dat_ints fun x _ => d1 x
  obtain ⟨q3, q4⟩ := dat_list (K := K) (r := qTI K) dat_tup fun x _ => d2 x
  exact dat_l3 q1 q3 q3 fun x hx => ⟨q2 _ hx.1, q4 _ hx.2.1, q4 _ hx.2.2⟩
theorem dat_al : IsDat K qAl (fun x => .tuple [.str ⟨x.1.toArray⟩, .str ⟨x.2.toArray⟩]) (fun x => okWd x.1 ∧ okWd x.2) := dat_pair dat_word dat_word fun x hx => ⟨by simp [PyData.depth], by simp [PyData.depth]⟩
/-! ### the rest of a word -/
theorem cut_word (l : List Nat) : (cutS (⟨l.toArray⟩ : Str) (some 1) none).cps.toList = l.drop 1 := by
  have e : (⟨l.toArray⟩ : Str).length = l.length := word_len l
  unfold cutS
  rw [e]
  show (((l.toArray.toList.drop (min (Int.toNat 1) l.length)).take (l.length - min (Int.toNat 1) l.length)).toArray).toList = _
  rw [List.toList_toArray, List.toList_toArray]
  show List.take (l.length - min 1 l.length) (List.drop (min 1 l.length) l) = _
  cases l with
  | nil => rfl
  | cons a l =>
    have : min 1 (a :: l).length = 1 := by rw [List.length_cons]; omega
    rw [this, List.drop_one, List.tail_cons, List.length_cons, Nat.add_sub_cancel, List.take_length]
theorem ev_restW {l : List Nat} (h : Ev β ta Γ qW (· = l)) (hl : l.length ≤ 1000) : Ev β (tSl rSlS ta (tPart (tC (.int 1))) tNoPart) Γ qW (· = l.drop 1) :=
  Ev.sW (ps := fun z => z.cps.toList = l.drop 1) (ev_from1 h.wS (fun z ⟨l', e, ez⟩ => by subst e ez; rw [word_len]; omega) fun z ⟨l', e, ez⟩ => by subst e ez; exact cut_word l') fun z e => e
end
end Rf
/-! Ml: plain facts about what the law builds. -/
namespace Rf
open Rf.Dd
def okA (l : List Nat) : Prop := ∀ c ∈ l, 97 ≤ c ∧ c ≤ 100
theorem okA.okW {l : List Nat} (h : okA l) : okW l := fun z => by have := h 45 z; omega
theorem okA.okWd {l : List Nat} (h : okA l) : okWd l := fun c hc => by have := h c hc; omega
/-! ### all alignments, part by part -/
def alM : List Nat → List Nat → List (List Nat × List Nat)
  | a :: x, b :: y => (Al x y).map fun r => (a :: r.1, b :: r.2)
  | _, _ => []
def alD : List Nat → List Nat → List (List Nat × List Nat)
  | a :: x, y => (Al x y).map fun r => (a :: r.1, 45 :: r.2)
  | [], _ => []
def alI : List Nat → List Nat → List (List Nat × List Nat)
  | x, b :: y => (Al x y).map fun r => (45 :: r.1, b :: r.2)
  | _, [] => []
theorem al_split {x y : List Nat} (h : ¬ (x = [] ∧ y = [])) : Al x y = (alM x y ++ alD x y) ++ alI x y := by
  cases x with
  | nil =>
    cases y with
    | nil => exact (h ⟨rfl, rfl⟩).elim
    | cons b y =>
      conv => lhs; unfold Al
      rfl
  | cons a x =>
    cases y with
    | nil =>
      conv => lhs; unfold Al
      unfold alM alD alI
      simp
    | cons b y =>
      conv => lhs; unfold Al
      unfold alM alD alI
      rw [List.append_assoc]
theorem al_none : Al [] [] = [([], [])] := by unfold Al; rfl
theorem al_ne (x y : List Nat) : Al x y ≠ [] := fun e => by
  have h1 := al_len x y
  have h2 := dl_pos x.length y.length
  rw [e] at h1
  simp at h1; omega
theorem al_63 {x y : List Nat} (hx : x.length ≤ 3) (hy : y.length ≤ 3) : (Al x y).length ≤ 63 := by rw [al_len]; exact dl_small hx hy
theorem al_signs : ∀ (x y : List Nat) (al : List Nat × List Nat), al ∈ Al x y → (∀ c ∈ al.1, c = 45 ∨ c ∈ x) ∧ (∀ c ∈ al.2, c = 45 ∨ c ∈ y)
  | x, y, al, h => by
    by_cases h0 : x = [] ∧ y = []
    · obtain ⟨rfl, rfl⟩ := h0
      rw [al_none, List.mem_singleton] at h
      subst h
      exact ⟨(fun c hc => nomatch hc), fun c hc => nomatch hc⟩
    rw [al_split h0] at h
    rcases List.mem_append.mp h with h | h
    · rcases List.mem_append.mp h with h | h
      · cases x with
        | nil => cases h
        | cons a x =>
          cases y with
          | nil => cases h
          | cons b y =>
            obtain ⟨r, hr, rfl⟩ := List.mem_map.mp h
            obtain ⟨q1, q2⟩ := al_signs x y r hr
            refine ⟨fun c hc => ?_, fun c hc => ?_⟩
            · rcases List.mem_cons.mp hc with rfl | hc
              · exact .inr List.mem_cons_self
              · exact (q1 c hc).imp_right (List.mem_cons_of_mem _)
            · rcases List.mem_cons.mp hc with rfl | hc
              · exact .inr List.mem_cons_self
              · exact (q2 c hc).imp_right (List.mem_cons_of_mem _)
      · cases x with
        | nil => cases h
        | cons a x =>
          obtain ⟨r, hr, rfl⟩ := List.mem_map.mp h
          obtain ⟨q1, q2⟩ := al_signs x y r hr
          refine ⟨fun c hc => ?_, fun c hc => ?_⟩
          · rcases List.mem_cons.mp hc with rfl | hc
            · exact .inr List.mem_cons_self
            · exact (q1 c hc).imp_right (List.mem_cons_of_mem _)
          · rcases List.mem_cons.mp hc with rfl | hc
            · exact .inl rfl
            · exact q2 c hc
    · cases y with
      | nil => cases x <;> cases h
      | cons b y =>
        obtain ⟨r, hr, rfl⟩ : ∃ r ∈ Al x y, (45 :: r.1, b :: r.2) = al := by
          cases x <;> exact List.mem_map.mp h
        obtain ⟨q1, q2⟩ := al_signs x y r hr
        refine ⟨fun c hc => ?_, fun c hc => ?_⟩
        · rcases List.mem_cons.mp hc with rfl | hc
          · exact .inl rfl
          · exact q1 c hc
        · rcases List.mem_cons.mp hc with rfl | hc
          · exact .inr List.mem_cons_self
          · exact (q2 c hc).imp_right (List.mem_cons_of_mem _)
termination_by x y => x.length + y.length
def noTwo (al : List Nat × List Nat) : Prop := ∀ c ∈ al.1.zip al.2, ¬ (c.1 = 45 ∧ c.2 = 45)
theorem al_two : ∀ (x y : List Nat) (al : List Nat × List Nat), okW x → okW y → al ∈ Al x y → noTwo al
  | x, y, al, ox, oy, h => by
    by_cases h0 : x = [] ∧ y = []
    · obtain ⟨rfl, rfl⟩ := h0
      rw [al_none, List.mem_singleton] at h
      subst h
      exact fun c hc => nomatch hc
    rw [al_split h0] at h
    rcases List.mem_append.mp h with h | h
    · rcases List.mem_append.mp h with h | h
      · cases x with
        | nil => cases h
        | cons a x =>
          cases y with
          | nil => cases h
          | cons b y =>
            obtain ⟨r, hr, rfl⟩ := List.mem_map.mp h
            obtain ⟨na, nx⟩ := okW_cons ox
            obtain ⟨nb, ny⟩ := okW_cons oy
            have q := al_two x y r nx ny hr
            intro c hc
            have hc : c ∈ (a, b) :: r.1.zip r.2 := hc
            rcases List.mem_cons.mp hc with rfl | hc
            · exact fun z => na z.1
            · exact q c hc
      · cases x with
        | nil => cases h
        | cons a x =>
          obtain ⟨r, hr, rfl⟩ := List.mem_map.mp h
          obtain ⟨na, nx⟩ := okW_cons ox
          have q := al_two x y r nx oy hr
          intro c hc
          have hc : c ∈ (a, 45) :: r.1.zip r.2 := hc
          rcases List.mem_cons.mp hc with rfl | hc
          · exact fun z => na z.1
          · exact q c hc
    · cases y with
      | nil => cases x <;> cases h
      | cons b y =>
        obtain ⟨r, hr, rfl⟩ : ∃ r ∈ Al x y, (45 :: r.1, b :: r.2) = al := by
          cases x <;> exact List.mem_map.mp h
        obtain ⟨nb, ny⟩ := okW_cons oy
        have q := al_two x y r ox ny hr
        intro c hc
        have hc : c ∈ (45, b) :: r.1.zip r.2 := hc
        rcases List.mem_cons.mp hc with rfl | hc
        · exact fun z => nb z.2
        · exact q c hc
termination_by x y => x.length + y.length
/-- an alignment as the law's defs want it -/
structure AlOk (al : List Nat × List Nat) : Prop where
  eq : al.1.length = al.2.length
  le : al.1.length ≤ 6
  two : noTwo al
  s1 : okWd al.1
  s2 : okWd al.2
theorem alOk_of {x y : List Nat} {al : List Nat × List Nat} (hx : x.length ≤ 3) (hy : y.length ≤ 3) (ox : okA x) (oy : okA y) (h : al ∈ Al x y) : AlOk al := by
  obtain ⟨h1, h2⟩ := al_rows x y al h
  obtain ⟨h3, h4⟩ := al_signs x y al h
  refine ⟨h1, by omega, al_two x y al ox.okW oy.okW h, fun c hc => ?_, fun c hc => ?_⟩
  · rcases h3 c hc with q | q
    · omega
    · exact ox.okWd c q
  · rcases h4 c hc with q | q
    · omega
    · exact oy.okWd c q
structure ExOk (e : List Nat × List Nat) : Prop where
  l1 : (bareF e.1).length ≤ 3
  l2 : (bareF e.2).length ≤ 3
  a1 : okA (bareF e.1)
  a2 : okA (bareF e.2)
  al : e ∈ Al (bareF e.1) (bareF e.2)
theorem exOk_of {x y : List Nat} {al : List Nat × List Nat} (hx : x.length ≤ 3) (hy : y.length ≤ 3) (ox : okA x) (oy : okA y) (h : al ∈ Al x y) : ExOk al := by
  obtain ⟨e1, e2⟩ := al_bare x y al ox.okW oy.okW h
  exact ⟨by rw [e1]; exact hx, by rw [e2]; exact hy, by rw [e1]; exact ox, by rw [e2]; exact oy, by rw [e1, e2]; exact h⟩
theorem ExOk.alOk {e : List Nat × List Nat} (h : ExOk e) : AlOk e := alOk_of h.l1 h.l2 h.a1 h.a2 h.al
/-! ### the law's scheme -/
abbrev SR := List (List Nat) × Bool × Bool
def mkS (g : SR) : Sc := ⟨g.1, g.2.1, g.2.2⟩
theorem good_len {g : List (List Nat)} (h : g ∈ goodG) : g.length ≤ 4 := (good_facts g h).1
theorem okS_size {g : SR} (h : okS g) : (mkS g).size ≤ 4 := by
  have h2 := h.2
  obtain ⟨gr, p, q⟩ := g
  have h2 : ¬ ((0 : Int) < gr.length ∧ p = true ∧ q = true) := h2
  have e : (mkS (gr, p, q)).size = b2 (decide ((0 : Int) < gr.length)) + 1 + b2 p + 1 + b2 q := rfl
  rw [e]
  by_cases h0 : (0 : Int) < gr.length
  · rw [decide_eq_true h0]
    cases p <;> cases q <;> simp [b2] <;> exact h2 ⟨h0, rfl, rfl⟩
  · rw [decide_eq_false h0]
    cases p <;> cases q <;> simp [b2]
theorem ExOk.okE {e : List Nat × List Nat} (h : ExOk e) {g : SR} (hg : okS g) : okE (mkS g) e := by
  have q := h.alOk
  have q1 := q.eq
  have q2 := q.le
  exact ⟨q2, by omega, good_len hg.1, h.l1, h.l2, h.a1.okW, h.a2.okW⟩
theorem okG_of {exs : List (List Nat × List Nat)} (h : ∀ e ∈ exs, ExOk e) (hl : exs.length ≤ 2) {g : SR} (hg : okS g) : okG (mkS g) exs := ⟨hl, fun e he => (h e he).okE hg, okS_size hg⟩
/-! ### the law's counts -/
abbrev Nums := Int × Int × Int × Int × Int
def outB (g p q : Bool) (n : Nums) : List Int := (if g then [n.1, n.2.1] else [n.2.1]) ++ ((if p then [n.2.2.1] else []) ++ (if q then [n.2.2.2.1, n.2.2.2.2] else [n.2.2.2.1 + n.2.2.2.2]))
def outF (sc : Sc) (n : Nums) : List Int := outB (decide ((0 : Int) < sc.groups.length)) sc.gaps sc.sides n
def addN (u v : Nums) : Nums := (u.1 + v.1, u.2.1 + v.2.1, u.2.2.1 + v.2.2.1, u.2.2.2.1 + v.2.2.2.1, u.2.2.2.2 + v.2.2.2.2)
def colB (m k before : Int) (e : Bool) : Nums :=
  if k = 0 then (if e then (0, 0, 0, 0, 0) else (m, 1 - m, 0, 0, 0))
  else if k = 1 then (0, 0, if before ≠ k then 1 else 0, 1, 0) else (0, 0, if before ≠ k then 1 else 0, 0, 1)
def nearN (sc : Sc) (a b : Nat) : Int := if (decide ((0 : Int) < sc.groups.length) && sc.near a b) = true then 1 else 0
def colN (sc : Sc) (k before : Int) (a b : Nat) : Nums := colB (nearN sc a b) k before (decide (a = b))
theorem out_zero (sc : Sc) : outF sc (0, 0, 0, 0, 0) = List.replicate sc.size.toNat 0 := by
  obtain ⟨gr, p, q⟩ := sc
  unfold outF Sc.size Sc.other
  show outB (decide ((0 : Int) < gr.length)) p q _ = List.replicate (b2 (decide ((0 : Int) < gr.length)) + 1 + b2 p + 1 + b2 q).toNat 0
  generalize decide ((0 : Int) < gr.length) = g
  cases g <;> cases p <;> cases q <;> rfl
theorem out_add (sc : Sc) (u v : Nums) : zw (· + ·) (outF sc u) (outF sc v) = outF sc (addN u v) := by
  obtain ⟨gr, p, q⟩ := sc
  unfold outF addN zw
  show List.zipWith _ (outB (decide ((0 : Int) < gr.length)) p q _) (outB (decide ((0 : Int) < gr.length)) p q _) = outB (decide ((0 : Int) < gr.length)) p q _
  generalize decide ((0 : Int) < gr.length) = g
  unfold outB
  cases g <;> cases p <;> cases q <;> simp <;> omega
theorem out_col (sc : Sc) (k before : Int) (a b : Nat) (hk : k = 0 ∨ k = 1 ∨ k = 2) : addedF sc k before a b = outF sc (colN sc k before a b) := by
  have oz := out_zero sc
  unfold addedF
  rw [← oz]
  unfold colN nearN outF Sc.other
  obtain ⟨gr, p, q⟩ := sc
  generalize hnr : Sc.near ⟨gr, p, q⟩ a b = nr
  clear oz
  show (if k = 0 then (if a ≠ b then (outB (decide ((0 : Int) < gr.length)) p q (0, 0, 0, 0, 0)).set (if b2 (decide ((0 : Int) < gr.length)) ≠ 0 ∧ nr = true then 0 else (b2 (decide ((0 : Int) < gr.length))).toNat) 1 else outB (decide ((0 : Int) < gr.length)) p q (0, 0, 0, 0, 0)) else
    (if p = true ∧ before ≠ k then (outB (decide ((0 : Int) < gr.length)) p q (0, 0, 0, 0, 0)).set (b2 (decide ((0 : Int) < gr.length)) + 1).toNat 1 else outB (decide ((0 : Int) < gr.length)) p q (0, 0, 0, 0, 0)).set (if k = 1 ∨ q = false then (b2 (decide ((0 : Int) < gr.length)) + 1 + b2 p).toNat else (b2 (decide ((0 : Int) < gr.length)) + 1 + b2 p + 1).toNat) 1) =
    outB (decide ((0 : Int) < gr.length)) p q (colB (if (decide ((0 : Int) < gr.length) && nr) = true then 1 else 0) k before (decide (a = b)))
  generalize decide ((0 : Int) < gr.length) = g
  unfold colB
  rcases hk with rfl | rfl | rfl
  · rw [if_pos rfl, if_pos rfl]
    by_cases hab : a = b
    · rw [if_neg (fun z => z hab), decide_eq_true hab]; rfl
    · rw [if_pos hab, decide_eq_false hab]
      cases g <;> cases p <;> cases q <;> cases nr <;> rfl
  · cases g <;> cases p <;> cases q <;> by_cases hb : before = 1 <;> simp [hb, outB, b2]
  · cases g <;> cases p <;> cases q <;> by_cases hb : before = 2 <;> simp [hb, outB, b2]
/-- columns counted -/
def numsF (sc : Sc) (l : List (Nat × Nat)) : Nums × Int := l.foldl (fun st c => (addN st.1 (colN sc (kindF c) st.2 c.1 c.2), kindF c)) ((0, 0, 0, 0, 0), 0)
theorem kind_range (c : Nat × Nat) : kindF c = 0 ∨ kindF c = 1 ∨ kindF c = 2 := by
  unfold kindF
  split
  · exact .inr (.inr rfl)
  · split
    · exact .inr (.inl rfl)
    · exact .inl rfl
theorem nums_counts (sc : Sc) (al : List Nat × List Nat) : countsF sc al = outF sc (numsF sc (al.1.zip al.2)).1 := by
  unfold countsF numsF
  rw [zipAl_eq, ← out_zero]
  have gen : ∀ (l : List (Nat × Nat)) (u : Nums) (k : Int), (l.map fun c => (kindF c, c)).foldl (stepF sc) (outF sc u, k) = (outF sc (l.foldl (fun st c => (addN st.1 (colN sc (kindF c) st.2 c.1 c.2), kindF c)) (u, k)).1, (l.foldl (fun st c => (addN st.1 (colN sc (kindF c) st.2 c.1 c.2), kindF c)) (u, k)).2) := by
    intro l
    induction l with
    | nil => intro u k; rfl
    | cons c l ih =>
      intro u k
      rw [List.map_cons, List.foldl_cons, List.foldl_cons]
      have e : stepF sc (outF sc u, k) (kindF c, c) = (outF sc (addN u (colN sc (kindF c) k c.1 c.2)), kindF c) := by
        unfold stepF
        show (zw (· + ·) (outF sc u) (addedF sc (kindF c) k c.1 c.2), kindF c) = _
        rw [out_col sc _ _ _ _ (kind_range c), out_add]
      rw [e, ih]
  rw [gen]
theorem nums_snoc (sc : Sc) (l : List (Nat × Nat)) (c : Nat × Nat) : numsF sc (l ++ [c]) = (addN (numsF sc l).1 (colN sc (kindF c) (numsF sc l).2 c.1 c.2), kindF c) := by
  unfold numsF
  rw [List.foldl_append]; rfl
/-! ### costs, best ones by places -/
theorem cost_range (xs ys : List Int) (h : xs.length = ys.length) : ((List.range xs.length).map fun k => xs.getD k 0 * ys.getD k 0).sum = dt xs ys := by
  unfold dt
  congr 1
  refine List.ext_getElem (by simp [h]) fun i h1 h2 => ?_
  have h1' : i < xs.length := by simpa using h1
  have h2' : i < ys.length := by omega
  rw [List.getElem_map, List.getElem_range, List.getElem_zipWith, List.getD_eq_getElem?_getD, List.getElem?_eq_getElem h1', List.getD_eq_getElem?_getD, List.getElem?_eq_getElem h2']
  rfl
theorem range_getD {α : Type} (l : List α) (d : α) : (List.range l.length).map (fun k => l.getD k d) = l := by
  refine List.ext_getElem (by simp) fun i h1 h2 => ?_
  rw [List.getElem_map, List.getElem_range, List.getD_eq_getElem?_getD, List.getElem?_eq_getElem h2]
  rfl
theorem filter_places {α : Type} (l : List α) (d : α) (p : α → Bool) : ((List.range l.length).filter fun k => p (l.getD k d)).map (fun k => l.getD k d) = l.filter p := by
  have h := List.filter_map (f := fun k => l.getD k d) (p := p) (l := List.range l.length)
  rw [range_getD] at h
  rw [h]; rfl
end Rf
/-! WkL: the law's defs, first part. -/
namespace Rf
open PySem PySem.Spec PyProof.Rows L2
section
variable {T : Tx} {CS CR aS : Addr} {β : Option Addr} {Γ : EnvA} {te ta : TE} {K : PySem.W.Frag}
/-- ''.join(signs) -/
theorem joinL_nil : ∀ l : List Nat, TL.joinL [] (l.map fun c => [c]) = l
  | [] => rfl
  | [a] => rfl
  | a :: b :: l => by
    show [a] ++ ([] ++ TL.joinL [] ((b :: l).map fun c => [c])) = _
    rw [joinL_nil (b :: l)]; rfl
theorem ev_joinC {p : List Nat → Prop} {pw : List Nat → Prop} (hb : Ev β ta Γ (rL qC) p) (k : ∀ l, p l → l.length ≤ 1000 ∧ pw l) : Ev β (tBM K "str" (rJoin K) (tC (.str "")) (tCons ta tNil)) Γ qW pw := by
  refine Ev.sW (ps := fun z => ∃ l, p l ∧ z = ⟨l.toArray⟩) (ev_join (p := fun xs => ∃ l, p l ∧ xs = l.map fun c => (⟨#[c]⟩ : Str)) (sep := "") ev_str (hb.as fun l pl => ⟨l.map fun c => (⟨#[c]⟩ : Str), ⟨l, pl, rfl⟩, fun A v ⟨a, vs, e, h1, h2⟩ => ⟨a, vs, e, h1, ?_⟩⟩) ?_) ?_
  · have gen : ∀ {vs : List V} {l : List Nat}, Paired (qC A) vs l → Paired (qS A) vs (l.map fun c => (⟨#[c]⟩ : Str)) := by
      intro vs l h
      induction h with
      | nil => exact .nil
      | cons h _ ih => exact .cons h ih
    exact gen h2
  · rintro _ ⟨l, pl, rfl⟩
    have hl := (k l pl).1
    refine ⟨?_, l, pl, ?_⟩
    · have e : ((l.map fun c => (⟨#[c]⟩ : Str)).map (·.length)).sum = l.length := by
        clear pl hl
        induction l with
        | nil => rfl
        | cons a l ih =>
          rw [List.map_cons, List.map_cons, List.sum_cons, ih, List.length_cons]
          show 1 + l.length = _
          omega
      rw [e]
      show _ + _ * 0 ≤ _
      omega
    · have q := SX.join_S [] (l.map fun c => [c])
      rw [joinL_nil, List.map_map] at q
      exact q
  · rintro _ ⟨l, pl, rfl⟩
    exact (k l pl).2
theorem paired_all {α γ : Type} {P : γ → Prop} : ∀ {l : List α} {ys : List γ}, Paired (fun _ z => P z) l ys → ∀ z ∈ ys, P z
  | _, _, .nil, _, h => nomatch h
  | _, _, .cons h t, z, hz => by
    rcases List.mem_cons.mp hz with rfl | hz
    · exact h
    · exact paired_all t z hz
abbrev s_law_draw : Stmt := topS 67
abbrev N_law_draw : List Str := ["_law_box", "_law_many", "_law_at"]
theorem sc_law_draw : FnScope N_law_draw ["_law_box", "_law_many"] (defScope s_law_draw) := ⟨rfl, rfl, rfl, by decide +kernel, rfl, by decide +kernel, by decide +kernel⟩
theorem nd_law_draw : N_law_draw.Nodup := by decide +kernel
theorem bd_law_draw (kV doc pm : Value) (an : Option Addr) (cdv ct : Value) (us : List Value) (hl : us.length = List.length (α := Str) ["_law_box", "_law_many"]) : bindArgs (PySem.W.fnOf "_law_draw" "_law_draw" (defArgs s_law_draw) (defBody s_law_draw) (defScope s_law_draw) .none kV doc pm an cdv ct) ⟨us, []⟩ = pure (List.zip (α := Str) ["_law_box", "_law_many"] us) := match us, hl with | [_, _], _ => rfl

abbrev spDraw : Sp := spOf (ι := Addr × Int) (fun g => some g.1) (fun g => [boxE g.1, sh qI g.2]) (fun g => 0 < g.2) qI (fun g z => 0 ≤ z ∧ z < g.2)
theorem ok_draw (F : TF T CS CR aS) (D : Dn T "_law_draw" s_law_draw) : Cl T 1 "_law_draw" spDraw := by
  refine cl_def D sc_law_draw bd_law_draw (fun _ => rfl) fun f cdv A outer s H E hr => ⟨_, (pss_cons (ps_set (i := 2) nd_law_draw rfl (Or.inl rfl) (ixL (⟨rfl, rfl, rfl, rfl, rfl⟩ : At _ T) (pv 0) pe_int))
      (pss_cons (ps_asg (pe_op op_add (pv 2) pe_int) (pgS (pv 0) pe_int))
      (pss_cons (ps_if (pt_cmpR op_lt (pv 2) (pb (⟨rfl, rfl, rfl, rfl, rfl⟩ : At _ T) (cLen (⟨rfl, rfl, rfl, rfl, rfl⟩ : At _ T)) rfl F.len boot_len (pa_cons (ixL (⟨rfl, rfl, rfl, rfl, rfl⟩ : At _ T) (pv 0) pe_int) pa_nil)) (nomark _)) (pss_one (ps_ret (pe_op op_mod (pbT (⟨rfl, rfl, rfl, rfl, rfl⟩ : At _ T) cInt rfl F.int boot_int (pa_cons (ixL (⟨rfl, rfl, rfl, rfl, rfl⟩ : At _ T) (ixL (⟨rfl, rfl, rfl, rfl, rfl⟩ : At _ T) (pv 0) pe_int) (pv 2)) pa_nil)) (pv 1)))) pss_nil)
      (pss_one (ps_ret (pe_op op_mod (pbT (⟨rfl, rfl, rfl, rfl, rfl⟩ : At _ T) cInt rfl F.int boot_int (pa_cons (pe_op op_add (pe_op op_mulS (pv 2) pe_int) pe_int) pa_nil)) (pv 1))))))), ?_⟩
  rintro ⟨b, m⟩ Fm D eb hm hR -
  have hm : 0 < m := hm
  have eb : Fm.bx = some b := eb
  show Tr Fm [some (boxE b), some (sh qI m), none] _ _
  refine tr_asg (r := qI) (ev_boxN eb rfl) ?_
  intro n hn
  have hn : 0 ≤ n := hn
  show Tr Fm [some (boxE b), some (sh qI m), some (sh qI n)] _ _
  refine tr_setBox (i := 0) (pi := (· = n + 1)) eb rfl (ev_i0D (ev_var rfl) ev_int) (by rintro _ rfl; omega) ?_
  rintro _ -
  refine tr_boxDraw eb rfl rfl rfl hn hm hR ?_
  refine tr_ret (p := (· = (n * 5 + 1) % m)) (ev_iiD (ev_intI (ev_i0D (ev_iiD (ev_var rfl) ev_int (.inr (by decide))) ev_int)) (ev_var rfl) hm) hR ?_
  rintro _ rfl
  exact ⟨Int.emod_nonneg _ (by omega), Int.emod_lt_of_pos _ hm⟩
theorem ev_draw {b : Addr} {i : Nat} {E : XK} {pm pz : Int → Prop} (hβ : β = some b) (h : Γ[i]? = some (some (boxE b))) (hm : Ev β te Γ qI pm) (k : ∀ m, pm m → 0 < m ∧ ∀ z, 0 ≤ z → z < m → pz z) : Ev β (tCall spDraw [] E (tCons (tVar i) (tCons te tNil))) Γ qI pz :=
  ev_callB (ea_box h (ea_cons hm fun m hm => ea_nil ⟨(b, m), hβ.symm, rfl, (k m hm).1, fun z hz => (k m hm).2 z hz.1 hz.2⟩))
theorem ev_drawD {b : Addr} {i : Nat} {E : XK} {m : Int} (hβ : β = some b) (h : Γ[i]? = some (some (boxE b))) (hm : Ev β te Γ qI (· = m)) (h0 : 0 < m) : Ev β (tCall spDraw [] E (tCons (tVar i) (tCons te tNil))) Γ qI fun z => 0 ≤ z ∧ z < m :=
  ev_draw hβ h hm (by rintro _ rfl; exact ⟨h0, fun z h1 h2 => ⟨h1, h2⟩⟩)
abbrev s_law_cell : Stmt := topS 65
abbrev N_law_cell : List Str := ["_law_script", "_law_k"]
theorem sc_law_cell : FnScope N_law_cell ["_law_script", "_law_k"] (defScope s_law_cell) := ⟨rfl, rfl, rfl, by decide +kernel, rfl, by decide +kernel, by decide +kernel⟩
theorem nd_law_cell : N_law_cell.Nodup := by decide +kernel
theorem bd_law_cell (kV doc pm : Value) (an : Option Addr) (cdv ct : Value) (us : List Value) (hl : us.length = List.length (α := Str) ["_law_script", "_law_k"]) : bindArgs (PySem.W.fnOf "_law_cell" "_law_cell" (defArgs s_law_cell) (defBody s_law_cell) (defScope s_law_cell) .none kV doc pm an cdv ct) ⟨us, []⟩ = pure (List.zip (α := Str) ["_law_script", "_law_k"] us) := match us, hl with | [_, _], _ => rfl

abbrev spCell (K : PySem.W.Frag) : Sp := spOf (ι := List Int × Nat) (fun _ => none) (fun g => [sh (qSq K) g.1, sh qI (g.2 : Int)]) (fun _ => True) qI (fun _ _ => True)
theorem ok_cell (F : TF T CS CR aS) (D : Dn T "_law_cell" s_law_cell) : Cl T 1 "_law_cell" (spCell T.K) := by
  refine cl_def D sc_law_cell bd_law_cell (fun _ => rfl) fun f cdv A outer s H E hr => ⟨_, (pss_cons (ps_if (pt_cmpR op_lt (pv 1) (pb (⟨rfl, rfl, rfl, rfl, rfl⟩ : At _ T) (cLen (⟨rfl, rfl, rfl, rfl, rfl⟩ : At _ T)) rfl F.len boot_len (pa_cons (pv 0) pa_nil)) (nomark _)) (pss_one (ps_ret (ixL (⟨rfl, rfl, rfl, rfl, rfl⟩ : At _ T) (pv 0) (pv 1)))) pss_nil)
      (pss_one (ps_ret pe_int))), ?_⟩
  rintro ⟨xs, n⟩ Fm D eb - hR -
  show Tr Fm [some (sh (qSq T.K) xs), some (sh qI (n : Int))] _ _
  refine tr_ifD (b := decide ((n : Int) < xs.length)) (et_test (ev_b0D (ev_var rfl) (ev_lenSq (ev_var rfl)))) (fun hb => ?_) (fun hb => tr_nil ?_)
  · have hn : n < xs.length := by have := of_decide_eq_true hb; omega
    exact tr_retS (ev_ixSq (ev_var rfl) (ev_var rfl) hn) hR fun _ _ => trivial
  · exact tr_ret ev_int hR fun _ _ => trivial
abbrev s_law_row : Stmt := topS 66
abbrev N_law_row : List Str := ["_law_script", "_law_first", "_law_last", "_law_row_here", "_law_k", "_law_cell_here", "_law_turn"]
theorem sc_law_row : FnScope N_law_row ["_law_script", "_law_first", "_law_last"] (defScope s_law_row) := ⟨rfl, rfl, rfl, by decide +kernel, rfl, by decide +kernel, by decide +kernel⟩
theorem nd_law_row : N_law_row.Nodup := by decide +kernel
theorem bd_law_row (kV doc pm : Value) (an : Option Addr) (cdv ct : Value) (us : List Value) (hl : us.length = List.length (α := Str) ["_law_script", "_law_first", "_law_last"]) : bindArgs (PySem.W.fnOf "_law_row" "_law_row" (defArgs s_law_row) (defBody s_law_row) (defScope s_law_row) .none kV doc pm an cdv ct) ⟨us, []⟩ = pure (List.zip (α := Str) ["_law_script", "_law_first", "_law_last"] us) := match us, hl with | [_, _, _], _ => rfl

abbrev spRow (K : PySem.W.Frag) : Sp := spOf (ι := List Int) (fun _ => none) (fun g => [sh (qSq K) g, sh qI 0, sh qI 63]) (fun _ => True) (rL qI) (fun _ z => z.length ≤ 100000)
theorem ok_row (F : TF T CS CR aS) (c_law_cell : Cl T 1 "_law_cell" (spCell T.K)) (D : Dn T "_law_row" s_law_row) : Cl T 2 "_law_row" (spRow T.K) := by
  refine cl_def D sc_law_row bd_law_row (fun _ => rfl) fun f cdv A outer s H E hr => ⟨_, (pss_cons (ps_set (i := 3) nd_law_row rfl (Or.inl rfl) (pe_lst pa_nil))
      (pss_cons (ps_for PassesOwn.never rfl (piR2 (⟨rfl, rfl, rfl, rfl, rfl⟩ : At _ T) rfl F.range (pa_cons (pv 1) (pa_cons (pv 2) pa_nil))) (pg_name (i := 4) nd_law_row rfl (.inl rfl) (.inl rfl)) (pss_cons (ps_set (i := 5) nd_law_row rfl (Or.inl rfl) (pc c_law_cell (⟨rfl, rfl, rfl, rfl, rfl⟩ : At _ T) hr (by decide) rfl (pa_cons (pv 0) (pa_cons (pv 4) pa_nil))))
      (pss_cons (ps_set (i := 5) nd_law_row rfl (Or.inl rfl) (pe_op op_add (pb (⟨rfl, rfl, rfl, rfl, rfl⟩ : At _ T) cAbs rfl F.abs boot_abs (pa_cons (pe_op op_mulS pe_int (pv 5)) pa_nil)) (pbT (⟨rfl, rfl, rfl, rfl, rfl⟩ : At _ T) cInt rfl F.int boot_int (pa_cons (pe_cmpR op_lt (pv 5) pe_int (nomark _)) pa_nil))))
      (pss_one (ps_if (pt_cmpR op_gt (pv 5) (pe_op op_pow pe_int pe_int) (nomark _)) (pss_one (ps_for PassesOwn.never rfl (piR (⟨rfl, rfl, rfl, rfl, rfl⟩ : At _ T) rfl F.range (pa_cons pe_int pa_nil)) (pg_name (i := 6) nd_law_row rfl (.inl rfl) (.inl rfl)) (pss_one (ps_if (pt_cmpR op_gt (pv 5) pe_int (nomark _)) (pss_cons (ps_expr (pmAppend (⟨rfl, rfl, rfl, rfl, rfl⟩ : At _ T) (pv 3) (pa_cons (pe_op op_mod (pbT (⟨rfl, rfl, rfl, rfl, rfl⟩ : At _ T) cInt rfl F.int boot_int (pa_cons (pv 5) pa_nil)) pe_int) pa_nil)))
      (pss_one (ps_set (i := 5) nd_law_row rfl (Or.inl rfl) (pe_op op_fdivW (pv 5) pe_int)))) pss_nil)))) (pss_one (ps_for PassesOwn.never rfl (piR (⟨rfl, rfl, rfl, rfl, rfl⟩ : At _ T) rfl F.range (pa_cons pe_int pa_nil)) (pg_name (i := 6) nd_law_row rfl (.inl rfl) (.inl rfl)) (pss_cons (ps_set (i := 5) nd_law_row rfl (Or.inl rfl) (pe_op op_mod (pbT (⟨rfl, rfl, rfl, rfl, rfl⟩ : At _ T) cInt rfl F.int boot_int (pa_cons (pe_op op_add (pe_op op_add (pe_op op_mulS (pv 5) pe_int) (pe_op op_mulS pe_int (pe_op op_add (pv 4) (pv 6)))) pe_int) pa_nil)) pe_int))
      (pss_one (ps_expr (pmAppend (⟨rfl, rfl, rfl, rfl, rfl⟩ : At _ T) (pv 3) (pa_cons (pe_op op_mod (pbT (⟨rfl, rfl, rfl, rfl, rfl⟩ : At _ T) cInt rfl F.int boot_int (pa_cons (pe_op op_fdivW (pv 5) pe_int) pa_nil)) pe_int) pa_nil))))))))))))
      (pss_one (ps_ret (pv 3))))), ?_⟩
  rintro xs Fm D eb - hR -
  show Tr Fm [some (sh (qSq T.K) xs), some (sh qI 0), some (sh qI 63), none, none, none, none] _ _
  refine tr_asgNE (r := qI) (xs := []) en_nil ?_
  refine tr_forS (S := List Int) (ei_range2 (a := 0) (b := 63) (ev_var rfl) (ev_var rfl) (by decide) tg_name) (fun _ i l => i ≤ 63 ∧ l.length ≤ 60 * i) (fun l => [some (sh (qSq T.K) xs), some (sh qI 0), some (sh qI 63), some (ownL qI l), none, none, none]) ?_ ?_ ?_
  · rintro ks -
    exact ⟨[], by simp, (by repeat (first | exact lss_nil | apply lss_some | apply lss_none))⟩
  · rintro ks hks B i k hk l ⟨hi0, hl⟩
    have hi : i < 63 := by
      have := (List.getElem?_eq_some_iff.mp hk).1
      rw [hks, List.length_map, List.length_range] at this
      exact this
    have ek : k = (i : Int) := by
      rw [hks, List.getElem?_map, List.getElem?_range (by exact hi)] at hk
      have : (0 : Int) + (i : Int) = k := Option.some.inj hk
      omega
    subst ek
    show Tr _ [some (sh (qSq T.K) xs), some (sh qI 0), some (sh qI 63), some (ownL qI l), some (sh qI (i : Int)), none, none] _ _
    refine tr_asg (r := qI) (p := fun _ => True) (ev_call2D (ev_var rfl) (ev_var rfl) (xs, i) rfl trivial fun _ h => h) ?_
    intro c0 _
    refine tr_asg (r := qI) (p := fun _ => True) (ev_i0 (pi := fun _ => True) (pj := fun _ => True) (ev_abs (pi := fun _ => True) (ev_ii (pi := (· = 2)) (pj := (· = c0)) ev_int (ev_var rfl) (by rintro _ _ rfl _; exact .inl (by decide)) fun _ _ _ _ => trivial) fun _ _ => trivial) (ev_intB (pb := fun _ => True) (ev_b0 (pi := (· = c0)) (pj := (· = 0)) (ev_var rfl) ev_int fun _ _ _ _ => trivial) fun _ _ => trivial) fun _ _ _ _ => trivial) ?_
    intro c _
    show Tr _ [some (sh (qSq T.K) xs), some (sh qI 0), some (sh qI 63), some (ownL qI l), some (sh qI (i : Int)), some (sh qI c), none] _ _
    refine tr_last (tr_if (q := fun _ => True) (et_test (ev_b0 (pi := (· = c)) (pj := fun _ => True) (ev_var rfl) (ev_ii (pi := (· = 10)) (pj := (· = 18)) ev_int ev_int (by rintro _ _ rfl rfl; exact ⟨by decide, by decide, by decide⟩) fun _ _ _ _ => trivial) fun _ _ _ _ => trivial)) (fun _ => ?_) (fun _ => ?_))
    · refine tr_forS (S := List Int × Int) (ei_range (pi := (· = 60)) ev_int (by rintro _ rfl; decide) tg_name) (fun ks j s => j ≤ 60 ∧ s.1.length ≤ l.length + j) (fun s => [some (sh (qSq T.K) xs), some (sh qI 0), some (sh qI 63), some (ownL qI s.1), some (sh qI (i : Int)), some (sh qI s.2), none]) ?_ ?_ ?_
      · rintro ks -
        exact ⟨(l, c), by simp, (by repeat (first | exact lss_nil | apply lss_some | apply lss_none))⟩
      · rintro js ⟨_, rfl, hjs⟩ B j u hu ⟨m, d⟩ ⟨hj0, hm⟩
        have hj : j < 60 := by
          have := (List.getElem?_eq_some_iff.mp hu).1
          rw [hjs, List.length_map, List.length_range] at this
          exact this
        have hm : m.length ≤ l.length + j := hm
        show Tr _ [some (sh (qSq T.K) xs), some (sh qI 0), some (sh qI 63), some (ownL qI m), some (sh qI (i : Int)), some (sh qI d), some (sh qI u)] _ _
        refine tr_last (tr_if (q := fun _ => True) (et_test (ev_b0 (pi := (· = d)) (pj := (· = 0)) (ev_var rfl) ev_int fun _ _ _ _ => trivial)) (fun _ => ?_) (fun _ => tr_nil ?_))
        · refine tr_assoc (tr_append (p := fun _ => True) rfl (ev_ii (pi := (· = d)) (pj := (· = 840)) (ev_intI (ev_var rfl)) ev_int (by rintro _ _ _ rfl; decide) fun _ _ _ _ => trivial) (by omega) ?_)
          intro z _
          refine tr_asg (r := qI) (p := fun _ => True) (ev_ii (pi := (· = d)) (pj := (· = 840)) (ev_var rfl) ev_int (by rintro _ _ _ rfl; exact ⟨by decide, by decide⟩) fun _ _ _ _ => trivial) ?_
          intro d' _
          exact tr_nx rfl (m ++ [z], d') ⟨by omega, by rw [List.length_append]; simp; omega⟩ (by repeat (first | exact lss_nil | apply lss_some | apply lss_none))
        · exact tr_nx rfl (m, d) ⟨by omega, by show m.length ≤ _; omega⟩ (by repeat (first | exact lss_nil | apply lss_some | apply lss_none))
      · rintro js ⟨_, rfl, hjs⟩ ⟨m, d⟩ ⟨hj0, hm⟩
        have hm : m.length ≤ l.length + js.length := hm
        have hjl : js.length = 60 := by rw [hjs]; simp
        exact tr_nx rfl m ⟨by omega, by omega⟩ (by repeat (first | exact lss_nil | apply lss_some | apply lss_none))
    · refine tr_forS (S := List Int × Int) (ei_range (pi := (· = 10)) ev_int (by rintro _ rfl; decide) tg_name) (fun ks j s => j ≤ 10 ∧ s.1.length ≤ l.length + j) (fun s => [some (sh (qSq T.K) xs), some (sh qI 0), some (sh qI 63), some (ownL qI s.1), some (sh qI (i : Int)), some (sh qI s.2), none]) ?_ ?_ ?_
      · rintro ks -
        exact ⟨(l, c), by simp, (by repeat (first | exact lss_nil | apply lss_some | apply lss_none))⟩
      · rintro js ⟨_, rfl, hjs⟩ B j u hu ⟨m, d⟩ ⟨hj0, hm⟩
        have hj : j < 10 := by
          have := (List.getElem?_eq_some_iff.mp hu).1
          rw [hjs, List.length_map, List.length_range] at this
          exact this
        have hm : m.length ≤ l.length + j := hm
        show Tr _ [some (sh (qSq T.K) xs), some (sh qI 0), some (sh qI 63), some (ownL qI m), some (sh qI (i : Int)), some (sh qI d), some (sh qI u)] _ _
        refine tr_asg (r := qI) (p := fun _ => True) (ev_ii (pi := fun _ => True) (pj := (· = 4294967291)) (ev_intI (ev_i0 (pi := fun _ => True) (pj := (· = 1)) (ev_i0 (pi := fun _ => True) (pj := fun _ => True) (ev_ii (pi := (· = d)) (pj := (· = 69069)) (ev_var rfl) ev_int (by rintro _ _ _ rfl; exact .inr (by decide)) fun _ _ _ _ => trivial) (ev_ii (pi := (· = 104729)) (pj := fun _ => True) ev_int (ev_i0 (pi := (· = (i : Int))) (pj := (· = u)) (ev_var rfl) (ev_var rfl) fun _ _ _ _ => trivial) (by rintro _ _ rfl _; exact .inl (by decide)) fun _ _ _ _ => trivial) fun _ _ _ _ => trivial) ev_int fun _ _ _ _ => trivial)) ev_int (by rintro _ _ _ rfl; decide) fun _ _ _ _ => trivial) ?_
        intro d' _
        refine tr_last (tr_append (p := fun _ => True) rfl (ev_ii (pi := fun _ => True) (pj := (· = 840)) (ev_intI (ev_ii (pi := (· = d')) (pj := (· = 5003)) (ev_var rfl) ev_int (by rintro _ _ _ rfl; exact ⟨by decide, by decide⟩) fun _ _ _ _ => trivial)) ev_int (by rintro _ _ _ rfl; decide) fun _ _ _ _ => trivial) (by omega) ?_)
        intro z _
        exact tr_nx rfl (m ++ [z], d') ⟨by omega, by rw [List.length_append]; simp; omega⟩ (by repeat (first | exact lss_nil | apply lss_some | apply lss_none))
      · rintro js ⟨_, rfl, hjs⟩ ⟨m, d⟩ ⟨hj0, hm⟩
        have hm : m.length ≤ l.length + js.length := hm
        have hjl : js.length = 10 := by rw [hjs]; simp
        exact tr_nx rfl m ⟨by omega, by omega⟩ (by repeat (first | exact lss_nil | apply lss_some | apply lss_none))
  · rintro ks hks l ⟨hi0, hl⟩
    exact tr_share (i := 3) rfl (tr_retD (ev_var rfl) hR (show l.length ≤ 100000 by omega))
abbrev s_law_word : Stmt := topS 68
abbrev N_law_word : List Str := ["_law_box", "_law_most", "_law_many", "_law_k"]
theorem sc_law_word : FnScope N_law_word ["_law_box", "_law_most"] (defScope s_law_word) := ⟨rfl, rfl, rfl, by decide +kernel, rfl, by decide +kernel, by decide +kernel⟩
theorem nd_law_word : N_law_word.Nodup := by decide +kernel
theorem bd_law_word (kV doc pm : Value) (an : Option Addr) (cdv ct : Value) (us : List Value) (hl : us.length = List.length (α := Str) ["_law_box", "_law_most"]) : bindArgs (PySem.W.fnOf "_law_word" "_law_word" (defArgs s_law_word) (defBody s_law_word) (defScope s_law_word) .none kV doc pm an cdv ct) ⟨us, []⟩ = pure (List.zip (α := Str) ["_law_box", "_law_most"] us) := match us, hl with | [_, _], _ => rfl

abbrev spWord : Sp := spOf (ι := Addr × Nat) (fun g => some g.1) (fun g => [boxE g.1, sh qI (g.2 : Int)]) (fun g => g.2 ≤ 3) qW (fun g z => z.length ≤ g.2 ∧ okA z)
theorem ok_word (F : TF T CS CR aS) (c_law_draw : Cl T 1 "_law_draw" spDraw) (D : Dn T "_law_word" s_law_word) : Cl T 2 "_law_word" spWord := by
  refine cl_def D sc_law_word bd_law_word (fun _ => rfl) fun f cdv A outer s H E hr => ⟨_, (pss_cons (ps_set (i := 2) nd_law_word rfl (Or.inl rfl) (pc c_law_draw (⟨rfl, rfl, rfl, rfl, rfl⟩ : At _ T) hr (by decide) rfl (pa_cons (pv 0) (pa_cons (pe_op op_add (pv 1) pe_int) pa_nil))))
      (pss_one (ps_ret (pmJoin (⟨rfl, rfl, rfl, rfl, rfl⟩ : At _ T) pe_str (pa_cons (pe_lc (own := [("_law_k", 3)]) rfl nd_law_word (piR (⟨rfl, rfl, rfl, rfl, rfl⟩ : At _ T) rfl F.range (pa_cons (pv 2) pa_nil)) (blkOk_by (own := [("_law_k", 3)]) (N := N_law_word) (sc := defScope s_law_word) (by decide +kernel)) (fun _ _ _ _ _ => (pg_name (i := 3) nd_law_word rfl (.inl rfl) (.inr rfl))) (fun _ _ _ _ _ => pts_nil) (fun _ _ _ _ _ => (ixS pe_str (pc c_law_draw (⟨rfl, rfl, rfl, rfl, rfl⟩ : At _ T) hr (by decide) rfl (pa_cons (pv 0) (pa_cons (ixL (⟨rfl, rfl, rfl, rfl, rfl⟩ : At _ T) (pe_lst (pa_cons pe_int (pa_cons pe_int (pa_cons pe_int pa_nil)))) (pc c_law_draw (⟨rfl, rfl, rfl, rfl, rfl⟩ : At _ T) hr (by decide) rfl (pa_cons (pv 0) (pa_cons pe_int pa_nil)))) pa_nil)))))) pa_nil))))), ?_⟩
  rintro ⟨b, n⟩ Fm D eb hn hR -
  have hn : n ≤ 3 := hn
  have eb : Fm.bx = some b := eb
  show Tr Fm [some (boxE b), some (sh qI (n : Int)), none, none] _ _
  refine tr_asg (r := qI) (p := fun z => 0 ≤ z ∧ z < (n : Int) + 1) (ev_drawD eb rfl (ev_i0D (ev_var rfl) ev_int) (by omega)) ?_
  rintro m ⟨m0, m1⟩
  show Tr Fm [some (boxE b), some (sh qI (n : Int)), some (sh qI m), none] _ _
  refine tr_ret (ev_joinC (p := fun l => l.length = m.toNat ∧ okA l) (pw := fun l => l.length ≤ n ∧ okA l) ((en_lc (r := qC) (b := fun _ => true) (q := fun (_ : Int) (c : Nat) => 97 ≤ c ∧ c ≤ 100) (ei_range (pi := (· = m)) (ev_var rfl) (by rintro _ rfl; omega) tg_name) (by decide) ?_ (fun _ _ _ _ => et_yes) ?_).ev.imp ?_) ?_) hR fun _ h => h
  · rintro _ ⟨_, rfl, rfl⟩
    rw [List.length_map, List.length_range]; omega
  · rintro _ ⟨_, rfl, rfl⟩ x _ _
    refine ev_ixW (pw := (· = [97, 98, 99, 100])) (pi := fun z => 0 ≤ z ∧ z < 4) (ev_word (l := [97, 98, 99, 100])) (ev_draw eb rfl (pm := fun z => z = 2 ∨ z = 3 ∨ z = 4) (ev_ixL (r := qI) (p := (· = [2, 3, 4])) (pi := fun z => 0 ≤ z ∧ z < 3) ((en_lst3 ev_int ev_int ev_int).ev.imp ?_) (fun _ _ => ev_drawD eb rfl ev_int (by decide)) ?_) ?_) ?_
    · rintro _ ⟨_, _, _, rfl, rfl, rfl, rfl⟩; rfl
    · rintro _ z rfl ⟨z0, z1⟩
      have : z = 0 ∨ z = 1 ∨ z = 2 := by omega
      rcases this with rfl | rfl | rfl
      · exact ⟨2, by decide, rfl, .inl rfl⟩
      · exact ⟨3, by decide, rfl, .inr (.inl rfl)⟩
      · exact ⟨4, by decide, rfl, .inr (.inr rfl)⟩
    · intro z hz
      exact ⟨by omega, fun w w0 w1 => ⟨w0, by omega⟩⟩
    · rintro _ z rfl ⟨z0, z1⟩
      refine ⟨by decide, ?_⟩
      have : z = 0 ∨ z = 1 ∨ z = 2 ∨ z = 3 := by omega
      rcases this with rfl | rfl | rfl | rfl
      · exact ⟨97, by decide, rfl, by decide⟩
      · exact ⟨98, by decide, rfl, by decide⟩
      · exact ⟨99, by decide, rfl, by decide⟩
      · exact ⟨100, by decide, rfl, by decide⟩
  · rintro z ⟨_, ⟨_, rfl, rfl⟩, h⟩
    rw [filter_true'] at h
    have e := paired_len h
    rw [List.length_map, List.length_range] at e
    exact ⟨e.symm, paired_all h⟩
  · rintro l ⟨h1, h2⟩
    exact ⟨by omega, by omega, h2⟩
abbrev s_law_plain : Stmt := topS 70
abbrev N_law_plain : List Str := ["_law_row_here", "_law_letter"]
theorem sc_law_plain : FnScope N_law_plain ["_law_row_here"] (defScope s_law_plain) := ⟨rfl, rfl, rfl, by decide +kernel, rfl, by decide +kernel, by decide +kernel⟩
theorem nd_law_plain : N_law_plain.Nodup := by decide +kernel
theorem bd_law_plain (kV doc pm : Value) (an : Option Addr) (cdv ct : Value) (us : List Value) (hl : us.length = List.length (α := Str) ["_law_row_here"]) : bindArgs (PySem.W.fnOf "_law_plain" "_law_plain" (defArgs s_law_plain) (defBody s_law_plain) (defScope s_law_plain) .none kV doc pm an cdv ct) ⟨us, []⟩ = pure (List.zip (α := Str) ["_law_row_here"] us) := match us, hl with | [_], _ => rfl

abbrev spPlain : Sp := spOf (ι := List Nat) (fun _ => none) (fun g => [sh qW g]) (fun g => g.length ≤ 1000) qW (fun g z => z = bareF g)
theorem ok_plain (F : TF T CS CR aS) (D : Dn T "_law_plain" s_law_plain) : Cl T 1 "_law_plain" spPlain := by
  refine cl_def D sc_law_plain bd_law_plain (fun _ => rfl) fun f cdv A outer s H E hr => ⟨_, (pss_one (ps_ret (pmJoin (⟨rfl, rfl, rfl, rfl, rfl⟩ : At _ T) pe_str (pa_cons (pe_lc (own := [("_law_letter", 1)]) rfl nd_law_plain (piS (pv 0)) (blkOk_by (own := [("_law_letter", 1)]) (N := N_law_plain) (sc := defScope s_law_plain) (by decide +kernel)) (fun _ _ _ _ _ => (pg_name (i := 1) nd_law_plain rfl (.inl rfl) (.inr rfl))) (fun _ _ _ _ _ => (pts_one (pt_cmpR op_ne (pv 1) pe_str (nomark _)))) (fun _ _ _ _ _ => (pv 1))) pa_nil)))), ?_⟩
  rintro g Fm D eb hg hR -
  have hg : g.length ≤ 1000 := hg
  show Tr Fm [some (sh qW g), none] _ _
  refine tr_ret (ev_joinC (p := (· = bareF g)) (pw := (· = bareF g)) ((en_lc (r := qC) (b := fun c => !decide (c = 45)) (q := fun (c z : Nat) => z = c) (ei_word (pw := (· = g)) (ev_var rfl) tg_name) (by decide) ?_ ?_ fun _ _ c _ _ => ev_var rfl).ev.imp ?_) ?_) hR fun _ h => h
  · rintro _ rfl; omega
  · rintro _ rfl c hc
    exact et_test (ev_neCD (ev_var rfl) ev_sign)
  · rintro z ⟨_, rfl, h⟩
    rw [paired_eq (f := fun c : Nat => c) h, List.map_id']
    rfl
  · rintro _ rfl
    exact ⟨Nat.le_trans (List.length_filter_le _ _) hg, rfl⟩
abbrev s_law_all : Stmt := topS 69
abbrev N_law_all : List Str := ["_law_first", "_law_second", "_law_out", "_law_rest"]
theorem sc_law_all : FnScope N_law_all ["_law_first", "_law_second"] (defScope s_law_all) := ⟨rfl, rfl, rfl, by decide +kernel, rfl, by decide +kernel, by decide +kernel⟩
theorem nd_law_all : N_law_all.Nodup := by decide +kernel
theorem bd_law_all (kV doc pm : Value) (an : Option Addr) (cdv ct : Value) (us : List Value) (hl : us.length = List.length (α := Str) ["_law_first", "_law_second"]) : bindArgs (PySem.W.fnOf "_law_all" "_law_all" (defArgs s_law_all) (defBody s_law_all) (defScope s_law_all) .none kV doc pm an cdv ct) ⟨us, []⟩ = pure (List.zip (α := Str) ["_law_first", "_law_second"] us) := match us, hl with | [_, _], _ => rfl

abbrev spAll (n : Nat) : Sp := spOf (ι := List Nat × List Nat) (fun _ => none) (fun g => [sh qW g.1, sh qW g.2]) (fun g => g.1.length + g.2.length < n ∧ g.1.length ≤ 3 ∧ g.2.length ≤ 3) (rL qAl) (fun g z => z = Al g.1 g.2)
theorem all_zero (D : Dn T "_law_all" s_law_all) : Cl T 0 "_law_all" (spAll 0) := by
  obtain ⟨f, fd, G, hm⟩ := D.ex
  have no : ∀ vs H Q E, ¬ spAll 0 vs H Q E := fun vs H Q E h => by
    obtain ⟨g, A, _, _, _, hp, _⟩ := h
    exact absurd hp.1 (Nat.not_lt_zero _)
  exact ⟨f, fd, ["_law_first", "_law_second"], ⟨fun vs H Q E h => absurd h (no vs H Q E), fun A outer s H args us vs Q E _ _ _ _ h => absurd h (no vs H Q E)⟩, hm, G.kp, G.bindsN bd_law_all⟩
theorem ev_hdW {a : Nat} {x : List Nat} (h : Ev β ta Γ qW (· = a :: x)) (hl : (a :: x).length ≤ 1000) : Ev β (tOp rIxS ta (tC (.int 0))) Γ qW (· = [a]) :=
  (ev_ixW (pw := (· = a :: x)) (pi := (· = 0)) (pc := (· = a)) h ev_int (by rintro _ _ rfl rfl; exact ⟨by omega, a, by decide, rfl, rfl⟩)).cW.imp (by rintro _ ⟨_, rfl, rfl⟩; rfl)
theorem ev_conW {x y : List Nat} (ha : Ev β ta Γ qW (· = x)) (hb : Ev β te Γ qW (· = y)) (h : x.length + y.length ≤ 16777216) : Ev β (tOp (fun x y H Q => ∃ i j : Str, x = .str i ∧ y = .str j ∧ i.length + j.length ≤ sizeLine ∧ Q (.str (i ++ j)) H) ta te) Γ qW (· = x ++ y) :=
  ev_catW (pw := (· = x)) (pw2 := (· = y)) ha hb (by rintro _ _ rfl rfl; exact ⟨h, rfl⟩)
theorem ev_row1 {r : List Nat × List Nat} (h : Ev β ta Γ qAl (· = r)) : Ev β (tOp (rIxT K) ta (tC (.int 0))) Γ qW (· = r.1) := ev_ixP1 h (by rintro _ rfl; rfl)
theorem ev_row2 {r : List Nat × List Nat} (h : Ev β ta Γ qAl (· = r)) : Ev β (tOp (rIxT K) ta (tC (.int 1))) Γ qW (· = r.2) := ev_ixP2 h (by rintro _ rfl; rfl)
theorem ev_prD {x y : List Nat} (ha : Ev β ta Γ qW (· = x)) (hb : Ev β te Γ qW (· = y)) : Ev β (tTup (tCons ta (tCons te tNil))) Γ qAl (· = (x, y)) := (ev_tup2 (r1 := qW) (r2 := qW) ha fun _ _ => hb).imp fun z h => Prod.ext h.1 h.2
theorem all_step {n : Nat} (F : TF T CS CR aS) (c_law_all : Cl T n "_law_all" (spAll n)) (D : Dn T "_law_all" s_law_all) : Cl T (n + 1) "_law_all" (spAll (n + 1)) := by
  refine cl_def D sc_law_all bd_law_all (fun _ => rfl) fun f cdv A outer s H E hr => ⟨_, (pss_cons (ps_if (PW.pt (pw_and (pt_cmpR op_eq (pv 0) pe_str (nomark _)) (pw_and1 (pt_cmpR op_eq (pv 1) pe_str (nomark _))))) (pss_one (ps_ret (pe_lst (pa_cons (pe_tup (pa_cons pe_str (pa_cons pe_str pa_nil))) pa_nil)))) pss_nil)
      (pss_cons (ps_set (i := 2) nd_law_all rfl (Or.inl rfl) (pe_lst pa_nil))
      (Evl.pss_cut (ps_if (PW.pt (pw_and (pt_cmpR op_ne (pv 0) pe_str (nomark _)) (pw_and1 (pt_cmpR op_ne (pv 1) pe_str (nomark _))))) (pss_one (ps_expr (pmExtend (⟨rfl, rfl, rfl, rfl, rfl⟩ : At _ T) (pv 2) (pa_cons (pe_lc (own := [("_law_rest", 3)]) rfl nd_law_all (piL (⟨rfl, rfl, rfl, rfl, rfl⟩ : At _ T) (pc c_law_all (⟨rfl, rfl, rfl, rfl, rfl⟩ : At _ T) hr (Nat.le_refl _) rfl (pa_cons (pe_slice sl_str (pv 0) (po_some pe_int) po_none) (pa_cons (pe_slice sl_str (pv 1) (po_some pe_int) po_none) pa_nil)))) (blkOk_by (own := [("_law_rest", 3)]) (N := N_law_all) (sc := defScope s_law_all) (by decide +kernel)) (fun _ _ _ _ _ => (pg_name (i := 3) nd_law_all rfl (.inl rfl) (.inr rfl))) (fun _ _ _ _ _ => pts_nil) (fun _ _ _ _ _ => (pe_tup (pa_cons (pe_op op_add_str (ixS (pv 0) pe_int) (ixT (⟨rfl, rfl, rfl, rfl, rfl⟩ : At _ T) (pv 3) pe_int)) (pa_cons (pe_op op_add_str (ixS (pv 1) pe_int) (ixT (⟨rfl, rfl, rfl, rfl, rfl⟩ : At _ T) (pv 3) pe_int)) pa_nil))))) pa_nil)))) pss_nil)
      (Evl.pss_cut (ps_if (pt_cmpR op_ne (pv 0) pe_str (nomark _)) (pss_one (ps_expr (pmExtend (⟨rfl, rfl, rfl, rfl, rfl⟩ : At _ T) (pv 2) (pa_cons (pe_lc (own := [("_law_rest", 3)]) rfl nd_law_all (piL (⟨rfl, rfl, rfl, rfl, rfl⟩ : At _ T) (pc c_law_all (⟨rfl, rfl, rfl, rfl, rfl⟩ : At _ T) hr (Nat.le_refl _) rfl (pa_cons (pe_slice sl_str (pv 0) (po_some pe_int) po_none) (pa_cons (pv 1) pa_nil)))) (blkOk_by (own := [("_law_rest", 3)]) (N := N_law_all) (sc := defScope s_law_all) (by decide +kernel)) (fun _ _ _ _ _ => (pg_name (i := 3) nd_law_all rfl (.inl rfl) (.inr rfl))) (fun _ _ _ _ _ => pts_nil) (fun _ _ _ _ _ => (pe_tup (pa_cons (pe_op op_add_str (ixS (pv 0) pe_int) (ixT (⟨rfl, rfl, rfl, rfl, rfl⟩ : At _ T) (pv 3) pe_int)) (pa_cons (pe_op op_add_str pe_str (ixT (⟨rfl, rfl, rfl, rfl, rfl⟩ : At _ T) (pv 3) pe_int)) pa_nil))))) pa_nil)))) pss_nil)
      (Evl.pss_cut (ps_if (pt_cmpR op_ne (pv 1) pe_str (nomark _)) (pss_one (ps_expr (pmExtend (⟨rfl, rfl, rfl, rfl, rfl⟩ : At _ T) (pv 2) (pa_cons (pe_lc (own := [("_law_rest", 3)]) rfl nd_law_all (piL (⟨rfl, rfl, rfl, rfl, rfl⟩ : At _ T) (pc c_law_all (⟨rfl, rfl, rfl, rfl, rfl⟩ : At _ T) hr (Nat.le_refl _) rfl (pa_cons (pv 0) (pa_cons (pe_slice sl_str (pv 1) (po_some pe_int) po_none) pa_nil)))) (blkOk_by (own := [("_law_rest", 3)]) (N := N_law_all) (sc := defScope s_law_all) (by decide +kernel)) (fun _ _ _ _ _ => (pg_name (i := 3) nd_law_all rfl (.inl rfl) (.inr rfl))) (fun _ _ _ _ _ => pts_nil) (fun _ _ _ _ _ => (pe_tup (pa_cons (pe_op op_add_str pe_str (ixT (⟨rfl, rfl, rfl, rfl, rfl⟩ : At _ T) (pv 3) pe_int)) (pa_cons (pe_op op_add_str (ixS (pv 1) pe_int) (ixT (⟨rfl, rfl, rfl, rfl, rfl⟩ : At _ T) (pv 3) pe_int)) pa_nil))))) pa_nil)))) pss_nil)
      (pss_one (ps_ret (pv 2)))))))), ?_⟩
  rintro ⟨x, y⟩ Fm D eb ⟨h1, h2, h3⟩ hR -
  have h1 : x.length + y.length < n + 1 := h1
  have h2 : x.length ≤ 3 := h2
  have h3 : y.length ≤ 3 := h3
  show Tr Fm [some (sh qW x), some (sh qW y), none, none] _ _
  refine tr_ifD (b := decide (x = []) && decide (y = [])) (et_andD (et_test (ev_eqWD (ev_var rfl) (ev_word (l := [])))) fun _ => et_test (ev_eqWD (ev_var rfl) (ev_word (l := [])))) (fun hb => ?_) (fun hb => tr_nil ?_)
  · rw [Bool.and_eq_true, decide_eq_true_eq, decide_eq_true_eq] at hb
    obtain ⟨rfl, rfl⟩ := hb
    refine tr_retS (en_lst1 (p := (· = (([] : List Nat), ([] : List Nat)))) (ev_prD (ev_word (l := [])) (ev_word (l := [])))).ev hR ?_
    rintro _ ⟨_, rfl, rfl⟩
    exact al_none.symm
  have h0 : ¬ (x = [] ∧ y = []) := fun z => by rw [z.1, z.2] at hb; cases hb
  refine tr_asgNE (r := qAl) (xs := []) en_nil ?_
  have len1 : ∀ u v : List Nat, u.length ≤ 3 → v.length ≤ 3 → (Al u v).length ≤ 63 := fun u v => al_63
  have rows : ∀ (u v : List Nat) (r : List Nat × List Nat), u.length ≤ 3 → v.length ≤ 3 → r ∈ Al u v → r.1.length ≤ 6 ∧ r.2.length ≤ 6 := fun u v r hu hv hr => by
    have := al_rows u v r hr
    omega
  refine tr_cutS (S := List (List Nat × List Nat)) (fun l => l = alM x y) (fun l => [some (sh qW x), some (sh qW y), some (ownL qAl l), none]) ?_ ?_
  · refine tr_last (tr_ifD (b := !decide (x = []) && !decide (y = [])) (et_andD (et_test (ev_neWD (ev_var rfl) (ev_word (l := [])))) fun _ => et_test (ev_neWD (ev_var rfl) (ev_word (l := [])))) (fun hb => ?_) (fun hb => tr_nil ?_))
    · cases x with
      | nil => simp at hb
      | cons a x =>
        cases y with
        | nil => simp at hb
        | cons b y =>
          have h2' : x.length ≤ 2 := by simpa using h2
          have h3' : y.length ≤ 2 := by simpa using h3
          have h1' : x.length + y.length < n := by simp at h1; omega
          refine tr_extend (i := 2) (q := (· = alM (a :: x) (b :: y))) rfl ((en_lc (r := qAl) (b := fun _ => true) (q := fun (r z : List Nat × List Nat) => z = (a :: r.1, b :: r.2)) (ei_list (p := (· = Al x y)) (ev_call2D (ev_restW (ev_var rfl) (by omega)) (ev_restW (ev_var rfl) (by omega)) (x, y) rfl ⟨h1', by show x.length ≤ 3; omega, by show y.length ≤ 3; omega⟩ fun _ h => h) tg_name) (by decide) ?_ (fun _ _ _ _ => et_yes) ?_).ev.imp ?_) ?_ ?_
          · rintro _ rfl; have := len1 x y (by omega) (by omega); omega
          · rintro _ rfl r hr _
            have := rows x y r (by omega) (by omega) hr
            exact ev_prD (ev_conW (ev_hdW (ev_var rfl) (by omega)) (ev_row1 (ev_var rfl)) (by simp; omega)) (ev_conW (ev_hdW (ev_var rfl) (by omega)) (ev_row2 (ev_var rfl)) (by simp; omega))
          · rintro z ⟨_, rfl, h⟩
            rw [filter_true'] at h
            exact paired_eq (f := fun r : List Nat × List Nat => (a :: r.1, b :: r.2)) h
          · rintro _ rfl
            have := len1 x y (by omega) (by omega)
            unfold alM
            rw [List.length_map]; simp; omega
          · rintro _ rfl
            exact tr_nx rfl (alM (a :: x) (b :: y)) rfl (by repeat (first | exact lss_nil | apply lss_some | apply lss_none))
    · refine tr_nx rfl [] ?_ (by repeat (first | exact lss_nil | apply lss_some | apply lss_none))
      cases x with
      | nil => rfl
      | cons a x =>
        cases y with
        | nil => rfl
        | cons b y => simp at hb
  rintro _ rfl
  refine tr_cutS (S := List (List Nat × List Nat)) (fun l => l = alM x y ++ alD x y) (fun l => [some (sh qW x), some (sh qW y), some (ownL qAl l), none]) ?_ ?_
  · refine tr_last (tr_ifD (b := !decide (x = [])) (et_test (ev_neWD (ev_var rfl) (ev_word (l := [])))) (fun hb => ?_) (fun hb => tr_nil ?_))
    · cases x with
      | nil => simp at hb
      | cons a x =>
        have h2' : x.length ≤ 2 := by simpa using h2
        have h1' : x.length + y.length < n := by simp at h1; omega
        refine tr_extend (i := 2) (q := (· = alD (a :: x) y)) rfl ((en_lc (r := qAl) (b := fun _ => true) (q := fun (r z : List Nat × List Nat) => z = (a :: r.1, 45 :: r.2)) (ei_list (p := (· = Al x y)) (ev_call2D (ev_restW (ev_var rfl) (by omega)) (ev_var rfl) (x, y) rfl ⟨h1', by show x.length ≤ 3; omega, by show y.length ≤ 3; omega⟩ fun _ h => h) tg_name) (by decide) ?_ (fun _ _ _ _ => et_yes) ?_).ev.imp ?_) ?_ ?_
        · rintro _ rfl; have := len1 x y (by omega) (by omega); omega
        · rintro _ rfl r hr _
          have := rows x y r (by omega) (by omega) hr
          exact ev_prD (ev_conW (ev_hdW (ev_var rfl) (by omega)) (ev_row1 (ev_var rfl)) (by simp; omega)) (ev_conW (ev_word (l := [45])) (ev_row2 (ev_var rfl)) (by simp; omega))
        · rintro z ⟨_, rfl, h⟩
          rw [filter_true'] at h
          exact paired_eq (f := fun r : List Nat × List Nat => (a :: r.1, 45 :: r.2)) h
        · rintro _ rfl
          have h6 := len1 x y (by omega) (by omega)
          have h7 : (alM (a :: x) y).length ≤ 63 := by
            cases y with
            | nil => simp [alM]
            | cons b y => unfold alM; rw [List.length_map]; exact len1 x y (by omega) (by simp at h3; omega)
          unfold alD
          rw [List.length_map]; omega
        · rintro _ rfl
          exact tr_nx rfl (alM (a :: x) y ++ alD (a :: x) y) rfl (by repeat (first | exact lss_nil | apply lss_some | apply lss_none))
    · refine tr_nx rfl (alM x y) ?_ (by repeat (first | exact lss_nil | apply lss_some | apply lss_none))
      cases x with
      | nil => simp [alM, alD]
      | cons a x => simp at hb
  rintro _ rfl
  refine tr_cutS (S := List (List Nat × List Nat)) (fun l => l = (alM x y ++ alD x y) ++ alI x y) (fun l => [some (sh qW x), some (sh qW y), some (ownL qAl l), none]) ?_ ?_
  · refine tr_last (tr_ifD (b := !decide (y = [])) (et_test (ev_neWD (ev_var rfl) (ev_word (l := [])))) (fun hb => ?_) (fun hb => tr_nil ?_))
    · cases y with
      | nil => simp at hb
      | cons b y =>
        have h3' : y.length ≤ 2 := by simpa using h3
        have h1' : x.length + y.length < n := by simp at h1; omega
        have eI : alI x (b :: y) = (Al x y).map fun r => (45 :: r.1, b :: r.2) := by cases x <;> rfl
        refine tr_extend (i := 2) (q := (· = alI x (b :: y))) rfl ((en_lc (r := qAl) (b := fun _ => true) (q := fun (r z : List Nat × List Nat) => z = (45 :: r.1, b :: r.2)) (ei_list (p := (· = Al x y)) (ev_call2D (ev_var rfl) (ev_restW (ev_var rfl) (by omega)) (x, y) rfl ⟨h1', by show x.length ≤ 3; omega, by show y.length ≤ 3; omega⟩ fun _ h => h) tg_name) (by decide) ?_ (fun _ _ _ _ => et_yes) ?_).ev.imp ?_) ?_ ?_
        · rintro _ rfl; have := len1 x y (by omega) (by omega); omega
        · rintro _ rfl r hr _
          have := rows x y r (by omega) (by omega) hr
          exact ev_prD (ev_conW (ev_word (l := [45])) (ev_row1 (ev_var rfl)) (by simp; omega)) (ev_conW (ev_hdW (ev_var rfl) (by omega)) (ev_row2 (ev_var rfl)) (by simp; omega))
        · rintro z ⟨_, rfl, h⟩
          rw [filter_true'] at h
          rw [eI]
          exact paired_eq (f := fun r : List Nat × List Nat => (45 :: r.1, b :: r.2)) h
        · rintro _ rfl
          have h6 := al_split h0
          have h7 := len1 x (b :: y) h2 h3
          rw [h6, List.length_append] at h7
          omega
        · rintro _ rfl
          exact tr_nx rfl ((alM x (b :: y) ++ alD x (b :: y)) ++ alI x (b :: y)) rfl (by repeat (first | exact lss_nil | apply lss_some | apply lss_none))
    · refine tr_nx rfl (alM x y ++ alD x y) ?_ (by repeat (first | exact lss_nil | apply lss_some | apply lss_none))
      cases y with
      | nil => cases x <;> simp [alI]
      | cons b y => simp at hb
  rintro _ rfl
  exact tr_share (i := 2) rfl (tr_retD (ev_var rfl) hR (al_split h0).symm)
theorem ok_all (F : TF T CS CR aS) (D : Dn T "_law_all" s_law_all) : ∀ n : Nat, Cl T n "_law_all" (spAll n)
  | 0 => all_zero D
  | n + 1 => all_step F (ok_all F D n) D
end
end Rf
/-! WkN: the law's defs, second part: schemes, counts, costs. -/
namespace Rf
open PySem PySem.Spec PyProof.Rows L2
section
variable {T : Tx} {CS CR aS : Addr} {β : Option Addr} {Γ : EnvA} {te ta : TE} {K : PySem.W.Frag} {α : Type} {r : RP α}
abbrev qSR : RP SR := qL3 (rL qW) qB qB
theorem ev_ixO {i n : Nat} [Mono r] {xs : List α} {x : α} (h : Γ[i]? = some (some (ownL r xs))) (hx : xs[n]? = some x) : Ev β (tOp (rIxL K) (tVar i) (tC (.int (n : Int)))) Γ r (· = x) := fun H0 σ A H R Q q => by
  obtain ⟨v, hv, ⟨l, vs, rfl, h1, h2, h3⟩, _⟩ := R.ent i _ h
  obtain ⟨y, hy, ry⟩ := paired_at h3 hx
  exact ⟨_, hv, l, vs, (n : Int), y, rfl, rfl, SqL.of h2, atI_nat hy, q y x A H (Grow.refl R.sub) rfl ry⟩
abbrev s_law_scheme : Stmt := topS 71
abbrev N_law_scheme : List Str := ["_law_box", "_law_groups", "_law_gaps", "_law_sides"]
theorem sc_law_scheme : FnScope N_law_scheme ["_law_box"] (defScope s_law_scheme) := ⟨rfl, rfl, rfl, by decide +kernel, rfl, by decide +kernel, by decide +kernel⟩
theorem nd_law_scheme : N_law_scheme.Nodup := by decide +kernel
theorem bd_law_scheme (kV doc pm : Value) (an : Option Addr) (cdv ct : Value) (us : List Value) (hl : us.length = List.length (α := Str) ["_law_box"]) : bindArgs (PySem.W.fnOf "_law_scheme" "_law_scheme" (defArgs s_law_scheme) (defBody s_law_scheme) (defScope s_law_scheme) .none kV doc pm an cdv ct) ⟨us, []⟩ = pure (List.zip (α := Str) ["_law_box"] us) := match us, hl with | [_], _ => rfl

abbrev spSch : Sp := spOf (ι := Addr) some (fun b => [boxE b]) (fun _ => True) qSR (fun _ z => okS z)
theorem ok_sch (F : TF T CS CR aS) (c_law_draw : Cl T 1 "_law_draw" spDraw) (D : Dn T "_law_scheme" s_law_scheme) : Cl T 2 "_law_scheme" spSch := by
  refine cl_def D sc_law_scheme bd_law_scheme (fun _ => rfl) fun f cdv A outer s H E hr => ⟨_, (pss_cons (ps_set (i := 1) nd_law_scheme rfl (Or.inl rfl) (ixL (⟨rfl, rfl, rfl, rfl, rfl⟩ : At _ T) (pe_lst (pa_cons (pe_lst pa_nil) (pa_cons (pe_lst pa_nil) (pa_cons (pe_lst (pa_cons pe_str pa_nil)) (pa_cons (pe_lst (pa_cons pe_str (pa_cons pe_str pa_nil))) (pa_cons (pe_lst (pa_cons pe_str pa_nil)) pa_nil)))))) (pc c_law_draw (⟨rfl, rfl, rfl, rfl, rfl⟩ : At _ T) hr (by decide) rfl (pa_cons (pv 0) (pa_cons pe_int pa_nil)))))
      (pss_cons (ps_set (i := 2) nd_law_scheme rfl (Or.inl rfl) (pe_cmpR op_eq (pc c_law_draw (⟨rfl, rfl, rfl, rfl, rfl⟩ : At _ T) hr (by decide) rfl (pa_cons (pv 0) (pa_cons pe_int pa_nil))) pe_int (nomark _)))
      (pss_cons (ps_set (i := 3) nd_law_scheme rfl (Or.inl rfl) (pe_cmpR op_eq (pc c_law_draw (⟨rfl, rfl, rfl, rfl, rfl⟩ : At _ T) hr (by decide) rfl (pa_cons (pv 0) (pa_cons pe_int pa_nil))) pe_int (nomark _)))
      (Evl.pss_cut (ps_if (PW.pt (pw_and (pt_cmpR op_gt (pb (⟨rfl, rfl, rfl, rfl, rfl⟩ : At _ T) (cLen (⟨rfl, rfl, rfl, rfl, rfl⟩ : At _ T)) rfl F.len boot_len (pa_cons (pv 1) pa_nil)) pe_int (nomark _)) (pw_and (pt_val (pv 2)) (pw_and1 (pt_val (pv 3)))))) (pss_one (ps_set (i := 3) nd_law_scheme rfl (Or.inl rfl) pe_bl)) pss_nil)
      (pss_one (ps_ret (pe_lst (pa_cons (pv 1) (pa_cons (pv 2) (pa_cons (pv 3) pa_nil)))))))))), ?_⟩
  rintro b Fm D eb - hR -
  have eb : Fm.bx = some b := eb
  show Tr Fm [some (boxE b), none, none, none] _ _
  refine tr_asg (r := rL qW) (p := fun z => z ∈ goodG) (ev_ixL (r := rL qW) (p := (· = [[], [], [[97, 98]], [[97, 98], [99, 100]], [[97, 99, 100]]])) (pi := fun z => 0 ≤ z ∧ z < 5)
    (en_lst (el_cons (en_nil (r := qW)).ev (el_cons (en_nil (r := qW)).ev (el_cons (en_lst (el_cons (ev_word (l := [97, 98])) el_nil) (by decide)).ev (el_cons (en_lst (el_cons (ev_word (l := [97, 98])) (el_cons (ev_word (l := [99, 100])) el_nil)) (by decide)).ev (el_cons (en_lst (el_cons (ev_word (l := [97, 99, 100])) el_nil) (by decide)).ev el_nil))))) (by decide)).ev
    (fun _ _ => ev_drawD eb rfl ev_int (by decide)) ?_) ?_
  · rintro _ z rfl ⟨z0, z1⟩
    have : z = 0 ∨ z = 1 ∨ z = 2 ∨ z = 3 ∨ z = 4 := by omega
    rcases this with rfl | rfl | rfl | rfl | rfl <;> exact ⟨_, by decide, rfl, by decide⟩
  intro g hg
  refine tr_asg (r := qB) (p := fun _ => True) (ev_eqI (pi := fun z => 0 ≤ z ∧ z < 2) (pj := (· = 0)) (ev_drawD eb rfl ev_int (by decide)) ev_int fun _ _ _ _ => trivial) ?_
  intro p _
  refine tr_asg (r := qB) (p := fun _ => True) (ev_eqI (pi := fun z => 0 ≤ z ∧ z < 2) (pj := (· = 0)) (ev_drawD eb rfl ev_int (by decide)) ev_int fun _ _ _ _ => trivial) ?_
  intro q _
  show Tr Fm [some (boxE b), some (sh (rL qW) g), some (sh qB p), some (sh qB q)] _ _
  refine tr_cutS (S := Bool) (fun s => ¬ ((0 : Int) < g.length ∧ p = true ∧ s = true)) (fun s => [some (boxE b), some (sh (rL qW) g), some (sh qB p), some (sh qB s)]) ?_ ?_
  · refine tr_last (tr_ifD (b := decide ((0 : Int) < g.length) && (p && q)) (et_andD (et_test (ev_b0D (ev_lenL (pi := (· = (g.length : Int))) (ev_var rfl) (by rintro _ rfl; rfl)) ev_int)) fun _ => et_andD (et_B (ev_var rfl)) fun _ => et_B (ev_var rfl)) (fun hb => ?_) (fun hb => tr_nil ?_))
    · refine tr_asg (r := qB) (p := (· = false)) ev_bl ?_
      rintro _ rfl
      exact tr_nx rfl false (fun z => nomatch z.2.2) (by repeat (first | exact lss_nil | apply lss_some | apply lss_none))
    · refine tr_nx rfl q (fun z => ?_) (by repeat (first | exact lss_nil | apply lss_some | apply lss_none))
      rw [decide_eq_true z.1, z.2.1, z.2.2] at hb
      cases hb
  · intro s hs
    refine tr_ret (ev_l3 (p1 := (· = g)) (p2 := (· = p)) (p3 := (· = s)) (ev_var rfl) (ev_var rfl) (ev_var rfl)) hR ?_
    rintro ⟨g', p', s'⟩ ⟨e1, e2, e3⟩
    have e1 : g' = g := e1
    have e2 : p' = p := e2
    have e3 : s' = s := e3
    subst e1 e2 e3
    exact ⟨hg, hs⟩
abbrev s_law_size : Stmt := topS 72
abbrev N_law_size : List Str := ["_law_s"]
theorem sc_law_size : FnScope N_law_size ["_law_s"] (defScope s_law_size) := ⟨rfl, rfl, rfl, by decide +kernel, rfl, by decide +kernel, by decide +kernel⟩
theorem nd_law_size : N_law_size.Nodup := by decide +kernel
theorem bd_law_size (kV doc pm : Value) (an : Option Addr) (cdv ct : Value) (us : List Value) (hl : us.length = List.length (α := Str) ["_law_s"]) : bindArgs (PySem.W.fnOf "_law_size" "_law_size" (defArgs s_law_size) (defBody s_law_size) (defScope s_law_size) .none kV doc pm an cdv ct) ⟨us, []⟩ = pure (List.zip (α := Str) ["_law_s"] us) := match us, hl with | [_], _ => rfl

abbrev spSz : Sp := spOf (ι := SR) (fun _ => none) (fun g => [sh qSR g]) (fun _ => True) qI (fun g z => z = (mkS g).size)
theorem ok_sz (F : TF T CS CR aS) (D : Dn T "_law_size" s_law_size) : Cl T 1 "_law_size" spSz := by
  refine cl_def D sc_law_size bd_law_size (fun _ => rfl) fun f cdv A outer s H E hr => ⟨_, (pss_one (ps_ret (pe_op op_add (pe_op op_add (pe_op op_add pe_int (pbT (⟨rfl, rfl, rfl, rfl, rfl⟩ : At _ T) cInt rfl F.int boot_int (pa_cons (pe_cmpR op_gt (pb (⟨rfl, rfl, rfl, rfl, rfl⟩ : At _ T) (cLen (⟨rfl, rfl, rfl, rfl, rfl⟩ : At _ T)) rfl F.len boot_len (pa_cons (ixL (⟨rfl, rfl, rfl, rfl, rfl⟩ : At _ T) (pv 0) pe_int) pa_nil)) pe_int (nomark _)) pa_nil))) (pbT (⟨rfl, rfl, rfl, rfl, rfl⟩ : At _ T) cInt rfl F.int boot_int (pa_cons (ixL (⟨rfl, rfl, rfl, rfl, rfl⟩ : At _ T) (pv 0) pe_int) pa_nil))) (pbT (⟨rfl, rfl, rfl, rfl, rfl⟩ : At _ T) cInt rfl F.int boot_int (pa_cons (ixL (⟨rfl, rfl, rfl, rfl, rfl⟩ : At _ T) (pv 0) pe_int) pa_nil))))), ?_⟩
  rintro g Fm D eb - hR -
  refine tr_ret (ev_i0D (x := 2 + b2 (decide ((0 : Int) < g.1.length)) + b2 g.2.1) (y := b2 g.2.2) (ev_i0D (x := 2 + b2 (decide ((0 : Int) < g.1.length))) (y := b2 g.2.1) (ev_i0D (x := 2) (y := b2 (decide ((0 : Int) < g.1.length))) ev_int (ev_intBD (ev_b0D (ev_lenL (p := (· = g.1)) (pi := (· = (g.1.length : Int))) (ev_ix30 (ev_var rfl)) (by rintro _ rfl; rfl)) ev_int))) (ev_intBD (ev_ix31 (ev_var rfl)))) (ev_intBD (ev_ix32 (ev_var rfl)))) hR ?_
  rintro _ rfl
  show _ = b2 (decide ((0 : Int) < g.1.length)) + 1 + b2 g.2.1 + 1 + b2 g.2.2
  omega
theorem ev_szD {g : SR} {E : XK} (h : Ev β te Γ qSR (· = g)) : Ev β (tCall spSz [] E (tCons te tNil)) Γ qI (· = (mkS g).size) := ev_call1D h g rfl trivial fun _ h => h
abbrev s_law_is_near : Stmt := topS 73
abbrev N_law_is_near : List Str := ["_law_s", "_law_a", "_law_b", "_law_group"]
theorem sc_law_is_near : FnScope N_law_is_near ["_law_s", "_law_a", "_law_b"] (defScope s_law_is_near) := ⟨rfl, rfl, rfl, by decide +kernel, rfl, by decide +kernel, by decide +kernel⟩
theorem nd_law_is_near : N_law_is_near.Nodup := by decide +kernel
theorem bd_law_is_near (kV doc pm : Value) (an : Option Addr) (cdv ct : Value) (us : List Value) (hl : us.length = List.length (α := Str) ["_law_s", "_law_a", "_law_b"]) : bindArgs (PySem.W.fnOf "_law_is_near" "_law_is_near" (defArgs s_law_is_near) (defBody s_law_is_near) (defScope s_law_is_near) .none kV doc pm an cdv ct) ⟨us, []⟩ = pure (List.zip (α := Str) ["_law_s", "_law_a", "_law_b"] us) := match us, hl with | [_, _, _], _ => rfl

theorem any_filter {α : Type} (p : α → Bool) (l : List α) : decide ((0 : Int) < ((l.filter p).length : Int)) = l.any p := by
  rw [Bool.eq_iff_iff, decide_eq_true_eq, List.any_eq_true]
  constructor
  · intro h
    have h : 0 < (l.filter p).length := by omega
    obtain ⟨a, ha⟩ := List.exists_mem_of_length_pos h
    exact ⟨a, (List.mem_filter.mp ha).1, (List.mem_filter.mp ha).2⟩
  · rintro ⟨a, h1, h2⟩
    have := List.length_pos_of_mem (List.mem_filter.mpr ⟨h1, h2⟩)
    omega
abbrev spNr : Sp := spOf (ι := SR × Nat × Nat) (fun _ => none) (fun g => [sh qSR g.1, sh qC g.2.1, sh qC g.2.2]) (fun g => g.1.1.length ≤ 4) qB (fun g z => z = (mkS g.1).near g.2.1 g.2.2)
theorem ok_nr (F : TF T CS CR aS) (D : Dn T "_law_is_near" s_law_is_near) : Cl T 1 "_law_is_near" spNr := by
  refine cl_def D sc_law_is_near bd_law_is_near (fun _ => rfl) fun f cdv A outer s H E hr => ⟨_, (pss_one (ps_ret (pe_cmpR op_gt (pb (⟨rfl, rfl, rfl, rfl, rfl⟩ : At _ T) (cLen (⟨rfl, rfl, rfl, rfl, rfl⟩ : At _ T)) rfl F.len boot_len (pa_cons (pe_lc (own := [("_law_group", 3)]) rfl nd_law_is_near (piL (⟨rfl, rfl, rfl, rfl, rfl⟩ : At _ T) (ixL (⟨rfl, rfl, rfl, rfl, rfl⟩ : At _ T) (pv 0) pe_int)) (blkOk_by (own := [("_law_group", 3)]) (N := N_law_is_near) (sc := defScope s_law_is_near) (by decide +kernel)) (fun _ _ _ _ _ => (pg_name (i := 3) nd_law_is_near rfl (.inl rfl) (.inr rfl))) (fun _ _ _ _ _ => (pts_one (PW.pt (pw_and (pt_cmpR op_inS (pv 1) (pv 3) rfl) (pw_and1 (pt_cmpR op_inS (pv 2) (pv 3) rfl)))))) (fun _ _ _ _ _ => (pv 3))) pa_nil)) pe_int (nomark _)))), ?_⟩
  rintro ⟨s, a, b⟩ Fm D eb hz hR -
  have hz : s.1.length ≤ 4 := hz
  show Tr Fm [some (sh qSR s), some (sh qC a), some (sh qC b), none] _ _
  refine tr_ret (ev_b0 (pi := (· = ((s.1.filter fun g => decide (a ∈ g) && decide (b ∈ g)).length : Int))) (pj := (· = 0)) (pb := (· = (mkS s).near a b)) (ev_lenL (p := (· = s.1.filter fun g => decide (a ∈ g) && decide (b ∈ g))) ((en_lc (r := qW) (b := fun g => decide (a ∈ g) && decide (b ∈ g)) (q := fun (g z : List Nat) => z = g) (ei_list (p := (· = s.1)) (ev_ix30 (ev_var rfl)) tg_name) (by decide) ?_ ?_ fun _ _ g _ _ => ev_var rfl).ev.imp ?_) ?_) ev_int ?_) hR fun _ h => h
  · rintro _ rfl; omega
  · rintro _ rfl g _
    refine et_andD (et_test (ev_inS (ev_var (r := qC) rfl).cS (ev_var (r := qW) rfl).wS ?_)) fun _ => et_test (ev_inS (ev_var (r := qC) rfl).cS (ev_var (r := qW) rfl).wS ?_)
    · rintro _ _ ⟨c, rfl, rfl⟩ ⟨l, rfl, rfl⟩
      exact ⟨_, rfl, by simp⟩
    · rintro _ _ ⟨c, rfl, rfl⟩ ⟨l, rfl, rfl⟩
      exact ⟨_, rfl, by simp⟩
  · rintro z ⟨_, rfl, h⟩
    rw [paired_eq (f := fun g : List Nat => g) h, List.map_id']
  · rintro _ rfl; rfl
  · rintro _ _ rfl rfl
    exact any_filter _ _
abbrev s_law_counts : Stmt := topS 74
abbrev N_law_counts : List Str := ["_law_s", "_law_alignment", "_law_near", "_law_other", "_law_gaps", "_law_spaces", "_law_before", "_law_k", "_law_a", "_law_b", "_law_kind", "_law_out"]
theorem sc_law_counts : FnScope N_law_counts ["_law_s", "_law_alignment"] (defScope s_law_counts) := ⟨rfl, rfl, rfl, by decide +kernel, rfl, by decide +kernel, by decide +kernel⟩
theorem nd_law_counts : N_law_counts.Nodup := by decide +kernel
theorem bd_law_counts (kV doc pm : Value) (an : Option Addr) (cdv ct : Value) (us : List Value) (hl : us.length = List.length (α := Str) ["_law_s", "_law_alignment"]) : bindArgs (PySem.W.fnOf "_law_counts" "_law_counts" (defArgs s_law_counts) (defBody s_law_counts) (defScope s_law_counts) .none kV doc pm an cdv ct) ⟨us, []⟩ = pure (List.zip (α := Str) ["_law_s", "_law_alignment"] us) := match us, hl with | [_, _], _ => rfl

def kwM : List Nat := [109, 97, 116, 99, 104]
def kwD : List Nat := [100, 101, 108, 101, 116, 105, 111, 110]
def kwI : List Nat := [105, 110, 115, 101, 114, 116, 105, 111, 110]
def kw (k : Int) : List Nat := if k = 0 then kwM else if k = 1 then kwD else kwI
def Bw (w : List Nat) (k : Int) : Prop := (w = [] ∧ k = 0) ∨ w = kw k
theorem kw_gap {w : List Nat} {k k' : Int} (hk : k = 0 ∨ k = 1 ∨ k = 2) (hb : k' = 0 ∨ k' = 1 ∨ k' = 2) (h : Bw w k') : ((!decide (kw k = kwM)) && !decide (kw k = w)) = (decide (k ≠ 0) && decide (k' ≠ k)) := by
  rcases h with ⟨rfl, rfl⟩ | rfl
  · rcases hk with rfl | rfl | rfl <;> decide
  · rcases hk with rfl | rfl | rfl <;> rcases hb with rfl | rfl | rfl <;> decide
theorem nums_kind (sc : Sc) (l : List (Nat × Nat)) : (numsF sc l).2 = 0 ∨ (numsF sc l).2 = 1 ∨ (numsF sc l).2 = 2 := by
  rcases List.eq_nil_or_concat l with rfl | ⟨l', c, rfl⟩
  · exact .inl rfl
  · rw [List.concat_eq_append, nums_snoc]
    exact kind_range c
/-- one column's gap apart -/
theorem col_gap (sc : Sc) (n : Nums) (k before : Int) (a b : Nat) : addN n (colN sc k before a b) = ((addN n (colN sc k k a b)).1, (addN n (colN sc k k a b)).2.1, (addN n (colN sc k k a b)).2.2.1 + (if k ≠ 0 ∧ before ≠ k then 1 else 0), (addN n (colN sc k k a b)).2.2.2.1, (addN n (colN sc k k a b)).2.2.2.2) := by
  unfold addN colN colB
  by_cases h0 : k = 0
  · simp [h0]
  · by_cases h1 : k = 1
    · by_cases hb : before = k <;> simp [h0, h1, hb] <;> simp_all
    · by_cases hb : before = k <;> simp [h0, h1, hb]
abbrev spCnt : Sp := spOf (ι := SR × List Nat × List Nat) (fun _ => none) (fun g => [sh qSR g.1, sh qAl g.2]) (fun g => g.1.1.length ≤ 4 ∧ AlOk g.2) (rL qI) (fun g z => z = countsF (mkS g.1) g.2)
abbrev eCnt (s : SR) (al : List Nat × List Nat) (n : Nums) (w : List Nat) (r7 r8 r9 r10 r11 : Option Ent) : EnvA := [some (sh qSR s), some (sh qAl al), some (sh qI n.1), some (sh qI n.2.1), some (sh qI n.2.2.1), some (ownL qI [n.2.2.2.1, n.2.2.2.2]), some (sh qW w), r7, r8, r9, r10, r11]
theorem ok_cnt (F : TF T CS CR aS) (c_law_is_near : Cl T 1 "_law_is_near" spNr) (D : Dn T "_law_counts" s_law_counts) : Cl T 2 "_law_counts" spCnt := by
  refine cl_def D sc_law_counts bd_law_counts (fun _ => rfl) fun f cdv A outer s H E hr => ⟨_, (pss_cons (ps_set (i := 2) nd_law_counts rfl (Or.inl rfl) pe_int)
      (pss_cons (ps_set (i := 3) nd_law_counts rfl (Or.inl rfl) pe_int)
      (pss_cons (ps_set (i := 4) nd_law_counts rfl (Or.inl rfl) pe_int)
      (pss_cons (ps_set (i := 5) nd_law_counts rfl (Or.inl rfl) (pe_lst (pa_cons pe_int (pa_cons pe_int pa_nil))))
      (pss_cons (ps_set (i := 6) nd_law_counts rfl (Or.inl rfl) pe_str)
      (pss_cons (ps_for PassesOwn.never rfl (piR (⟨rfl, rfl, rfl, rfl, rfl⟩ : At _ T) rfl F.range (pa_cons (pb (⟨rfl, rfl, rfl, rfl, rfl⟩ : At _ T) cLenS rfl F.len boot_len (pa_cons (ixT (⟨rfl, rfl, rfl, rfl, rfl⟩ : At _ T) (pv 1) pe_int) pa_nil)) pa_nil)) (pg_name (i := 7) nd_law_counts rfl (.inl rfl) (.inl rfl)) (pss_cons (ps_set (i := 8) nd_law_counts rfl (Or.inl rfl) (ixS (ixT (⟨rfl, rfl, rfl, rfl, rfl⟩ : At _ T) (pv 1) pe_int) (pv 7)))
      (pss_cons (ps_set (i := 9) nd_law_counts rfl (Or.inl rfl) (ixS (ixT (⟨rfl, rfl, rfl, rfl, rfl⟩ : At _ T) (pv 1) pe_int) (pv 7)))
      (pss_cons (ps_set (i := 10) nd_law_counts rfl (Or.inl rfl) pe_str)
      (Evl.pss_cut (ps_if (pt_cmpR op_eq (pv 9) pe_str (nomark _)) (pss_cons (ps_set (i := 10) nd_law_counts rfl (Or.inl rfl) pe_str)
      (pss_one (ps_asg (pe_op op_add (ixL (⟨rfl, rfl, rfl, rfl, rfl⟩ : At _ T) (pv 5) pe_int) pe_int) (pgS (pv 5) pe_int)))) (pss_one (ps_if (pt_cmpR op_eq (pv 8) pe_str (nomark _)) (pss_cons (ps_set (i := 10) nd_law_counts rfl (Or.inl rfl) pe_str)
      (pss_one (ps_asg (pe_op op_add (ixL (⟨rfl, rfl, rfl, rfl, rfl⟩ : At _ T) (pv 5) pe_int) pe_int) (pgS (pv 5) pe_int)))) (pss_one (ps_if (PW.pt (pw_and (pt_cmpR op_ne (pv 8) (pv 9) (nomark _)) (pw_and1 (pt_val (pc c_law_is_near (⟨rfl, rfl, rfl, rfl, rfl⟩ : At _ T) hr (by decide) rfl (pa_cons (pv 0) (pa_cons (pv 8) (pa_cons (pv 9) pa_nil)))))))) (pss_one (ps_set (i := 2) nd_law_counts rfl (Or.inl rfl) (pe_op op_add (pv 2) pe_int))) (pss_one (ps_if (pt_cmpR op_ne (pv 8) (pv 9) (nomark _)) (pss_one (ps_set (i := 3) nd_law_counts rfl (Or.inl rfl) (pe_op op_add (pv 3) pe_int))) pss_nil)))))))
      (Evl.pss_cut (ps_if (PW.pt (pw_and (pt_cmpR op_ne (pv 10) pe_str (nomark _)) (pw_and1 (pt_cmpR op_ne (pv 10) (pv 6) (nomark _))))) (pss_one (ps_set (i := 4) nd_law_counts rfl (Or.inl rfl) (pe_op op_add (pv 4) pe_int))) pss_nil)
      (pss_one (ps_set (i := 6) nd_law_counts rfl (Or.inl rfl) (pv 10)))))))))
      (pss_cons (ps_set (i := 11) nd_law_counts rfl (Or.inl rfl) (pe_lst (pa_cons (pv 3) pa_nil)))
      (Evl.pss_cut (ps_if (pt_cmpR op_gt (pb (⟨rfl, rfl, rfl, rfl, rfl⟩ : At _ T) (cLen (⟨rfl, rfl, rfl, rfl, rfl⟩ : At _ T)) rfl F.len boot_len (pa_cons (ixL (⟨rfl, rfl, rfl, rfl, rfl⟩ : At _ T) (pv 0) pe_int) pa_nil)) pe_int (nomark _)) (pss_one (ps_set (i := 11) nd_law_counts rfl (Or.inl rfl) (pe_lst (pa_cons (pv 2) (pa_cons (pv 3) pa_nil))))) pss_nil)
      (Evl.pss_cut (ps_if (pt_val (ixL (⟨rfl, rfl, rfl, rfl, rfl⟩ : At _ T) (pv 0) pe_int)) (pss_one (ps_expr (pmAppend (⟨rfl, rfl, rfl, rfl, rfl⟩ : At _ T) (pv 11) (pa_cons (pv 4) pa_nil)))) pss_nil)
      (pss_cons (ps_if (pt_val (ixL (⟨rfl, rfl, rfl, rfl, rfl⟩ : At _ T) (pv 0) pe_int)) (pss_one (ps_ret (pe_op op_cat (pv 11) (pv 5)))) pss_nil)
      (pss_one (ps_ret (pe_op op_cat (pv 11) (pe_lst (pa_cons (pb (⟨rfl, rfl, rfl, rfl, rfl⟩ : At _ T) (cSum (⟨rfl, rfl, rfl, rfl, rfl⟩ : At _ T) rfl) rfl F.sum boot_sum (pa_cons (pv 5) pa_nil)) pa_nil))))))))))))))), ?_⟩
  rintro ⟨s, al⟩ Fm D eb ⟨hz, hal⟩ hR -
  have hz : s.1.length ≤ 4 := hz
  have hal : AlOk al := hal
  have h6 := hal.le
  have heq := hal.eq
  have zl : (al.1.zip al.2).length = al.1.length := by rw [List.length_zip]; omega
  show Tr Fm [some (sh qSR s), some (sh qAl al), none, none, none, none, none, none, none, none, none, none] _ _
  refine tr_asgD (r := qI) (x := 0) ev_int ?_
  refine tr_asgD (r := qI) (x := 0) ev_int ?_
  refine tr_asgD (r := qI) (x := 0) ev_int ?_
  refine tr_asgN (r := qI) (en_lst2 (p := (· = 0)) (p2 := (· = 0)) ev_int ev_int) ?_
  rintro _ ⟨_, _, rfl, rfl, rfl⟩
  refine tr_asgD (r := qW) (x := []) (ev_word (l := [])) ?_
  refine tr_forS (S := Nums × List Nat) (ei_range (pi := (· = (al.1.length : Int))) (ev_lenW (pw := (· = al.1)) (ev_row1 (ev_var rfl)) (by rintro _ rfl; exact ⟨by omega, rfl⟩)) (by rintro _ rfl; omega) tg_name) (fun _ i st => i ≤ al.1.length ∧ st.1 = (numsF (mkS s) ((al.1.zip al.2).take i)).1 ∧ Bw st.2 (numsF (mkS s) ((al.1.zip al.2).take i)).2) (fun st => eCnt s al st.1 st.2 none none none none none) ?_ ?_ ?_
  · rintro xs -
    exact ⟨((0, 0, 0, 0, 0), []), ⟨Nat.zero_le _, rfl, .inl ⟨rfl, rfl⟩⟩, (by repeat (first | exact lss_nil | apply lss_some | apply lss_none))⟩
  · rintro xs ⟨_, rfl, hxs⟩ B i x hx ⟨n, w⟩ ⟨-, hn, hw⟩
    obtain ⟨rfl, hi⟩ := range_at hxs hx
    have hi : i < al.1.length := by simpa using hi
    have hn : n = (numsF (mkS s) ((al.1.zip al.2).take i)).1 := hn
    have hw : Bw w (numsF (mkS s) ((al.1.zip al.2).take i)).2 := hw
    have hkb := nums_kind (mkS s) ((al.1.zip al.2).take i)
    have hi2 : i < al.2.length := by omega
    have ha : al.1[i]? = some al.1[i] := List.getElem?_eq_getElem hi
    have hb : al.2[i]? = some al.2[i] := List.getElem?_eq_getElem hi2
    have hc : (al.1.zip al.2)[i]? = some (al.1[i], al.2[i]) := by rw [List.getElem?_eq_getElem (by omega), List.getElem_zip]
    have htwo := hal.two _ (List.mem_of_getElem? hc)
    generalize al.1[i] = a at ha hc htwo
    generalize al.2[i] = b at hb hc htwo
    have htwo : ¬ (a = 45 ∧ b = 45) := htwo
    have fin : ∀ n', n' = addN n (colN (mkS s) (kindF (a, b)) (numsF (mkS s) ((al.1.zip al.2).take i)).2 a b) → i + 1 ≤ al.1.length ∧ n' = (numsF (mkS s) ((al.1.zip al.2).take (i + 1))).1 ∧ Bw (kw (kindF (a, b))) (numsF (mkS s) ((al.1.zip al.2).take (i + 1))).2 := fun n' h' => by
      rw [take_succ' hc, nums_snoc]
      exact ⟨hi, by rw [h', hn], .inr rfl⟩
    generalize (numsF (mkS s) ((al.1.zip al.2).take i)).2 = kb at hw hkb fin
    show Tr _ (eCnt s al n w (some (sh qI (i : Int))) none none none none) _ _
    refine tr_asgD (r := qC) (x := a) (ev_ixW (pw := (· = al.1)) (pi := (· = (i : Int))) (pc := (· = a)) (ev_row1 (ev_var rfl)) (ev_var rfl) (by rintro _ _ rfl rfl; exact ⟨by omega, a, by omega, ha, rfl⟩)) ?_
    refine tr_asgD (r := qC) (x := b) (ev_ixW (pw := (· = al.2)) (pi := (· = (i : Int))) (pc := (· = b)) (ev_row2 (ev_var rfl)) (ev_var rfl) (by rintro _ _ rfl rfl; exact ⟨by omega, b, by omega, hb, rfl⟩)) ?_
    refine tr_asgD (r := qW) (x := kwM) (ev_word (l := kwM)) ?_
    show Tr _ (eCnt s al n w (some (sh qI (i : Int))) (some (sh qC a)) (some (sh qC b)) (some (sh qW kwM)) none) _ _
    refine tr_cutS (S := Nums) (fun m => m = addN n (colN (mkS s) (kindF (a, b)) (kindF (a, b)) a b)) (fun m => eCnt s al m w (some (sh qI (i : Int))) (some (sh qC a)) (some (sh qC b)) (some (sh qW (kw (kindF (a, b))))) none) ?_ ?_
    · refine tr_last (tr_ifD (b := decide (b = 45)) (et_test (ev_eqCD (ev_var rfl) ev_sign)) (fun q => ?_) (fun q => ?_))
      · have q : b = 45 := of_decide_eq_true q
        have na : a ≠ 45 := fun z => htwo ⟨z, q⟩
        have ek : kindF (a, b) = 1 := by unfold kindF; rw [if_neg na, if_pos q]
        rw [ek]
        refine tr_assoc (tr_asgD (r := qW) (x := kwD) (ev_word (l := kwD)) ?_)
        refine tr_setL (i := 5) (j := 0) (r := qI) (p := (· = n.2.2.2.1 + 1)) rfl (ev_i0D (x := n.2.2.2.1) (ev_ixO (n := 0) rfl rfl) ev_int) (fun _ _ => ev_int) (show 0 < 2 by decide) ?_
        rintro _ rfl
        refine tr_nx rfl (n.1, n.2.1, n.2.2.1, n.2.2.2.1 + 1, n.2.2.2.2) ?_ (by repeat (first | exact lss_nil | apply lss_some | apply lss_none))
        show _ = addN n (colB _ 1 1 _)
        unfold addN colB
        simp
      · have nb : b ≠ 45 := of_decide_eq_false q
        refine tr_ifD (b := decide (a = 45)) (et_test (ev_eqCD (ev_var rfl) ev_sign)) (fun q => ?_) (fun q => ?_)
        · have q : a = 45 := of_decide_eq_true q
          have ek : kindF (a, b) = 2 := by unfold kindF; rw [if_pos q]
          rw [ek]
          refine tr_assoc (tr_asgD (r := qW) (x := kwI) (ev_word (l := kwI)) ?_)
          refine tr_setL (i := 5) (j := 1) (r := qI) (p := (· = n.2.2.2.2 + 1)) rfl (ev_i0D (x := n.2.2.2.2) (ev_ixO (n := 1) rfl rfl) ev_int) (fun _ _ => ev_int) (show 1 < 2 by decide) ?_
          rintro _ rfl
          refine tr_nx rfl (n.1, n.2.1, n.2.2.1, n.2.2.2.1, n.2.2.2.2 + 1) ?_ (by repeat (first | exact lss_nil | apply lss_some | apply lss_none))
          show _ = addN n (colB _ 2 2 _)
          unfold addN colB
          simp
        · have na : a ≠ 45 := of_decide_eq_false q
          have ek : kindF (a, b) = 0 := by unfold kindF; rw [if_neg na, if_neg nb]
          rw [ek]
          refine tr_ifD (b := !decide (a = b) && (mkS s).near a b) (et_andD (et_test (ev_neCD (ev_var rfl) (ev_var rfl))) fun _ => et_B (ev_call3D (ev_var rfl) (ev_var rfl) (ev_var rfl) (s, a, b) rfl hz fun _ h => h)) (fun q => ?_) (fun q => ?_)
          · rw [Bool.and_eq_true, Bool.not_eq_true', decide_eq_false_iff_not] at q
            obtain ⟨hab, hnr⟩ := q
            refine tr_asgD (r := qI) (x := n.1 + 1) (ev_i0D (ev_var rfl) ev_int) ?_
            refine tr_nx rfl (n.1 + 1, n.2.1, n.2.2.1, n.2.2.2.1, n.2.2.2.2) ?_ (by repeat (first | exact lss_nil | apply lss_some | apply lss_none))
            have hg0 : (0 : Int) < s.1.length := by
              have hnr2 : (s.1.any fun g => decide (a ∈ g) && decide (b ∈ g)) = true := hnr
              rw [List.any_eq_true] at hnr2
              obtain ⟨g, hg, _⟩ := hnr2
              have := List.length_pos_of_mem hg
              omega
            have en : nearN (mkS s) a b = 1 := by
              unfold nearN
              rw [hnr]
              show (if (decide ((0 : Int) < s.1.length) && true) = true then (1 : Int) else 0) = 1
              rw [decide_eq_true hg0]; rfl
            show _ = addN n (colB (nearN (mkS s) a b) 0 0 (decide (a = b)))
            rw [en, decide_eq_false hab]
            unfold addN colB
            simp
          · refine tr_last (tr_ifD (b := !decide (a = b)) (et_test (ev_neCD (ev_var rfl) (ev_var rfl))) (fun q2 => ?_) (fun q2 => tr_nil ?_))
            · rw [Bool.not_eq_true', decide_eq_false_iff_not] at q2
              have hnr : (mkS s).near a b = false := by
                rw [decide_eq_false q2] at q
                simpa using q
              refine tr_asgD (r := qI) (x := n.2.1 + 1) (ev_i0D (ev_var rfl) ev_int) ?_
              refine tr_nx rfl (n.1, n.2.1 + 1, n.2.2.1, n.2.2.2.1, n.2.2.2.2) ?_ (by repeat (first | exact lss_nil | apply lss_some | apply lss_none))
              have en : nearN (mkS s) a b = 0 := by
                unfold nearN
                rw [hnr, Bool.and_false]; rfl
              show _ = addN n (colB (nearN (mkS s) a b) 0 0 (decide (a = b)))
              rw [en, decide_eq_false q2]
              unfold addN colB
              simp
            · have hab : a = b := by simpa using q2
              refine tr_nx rfl n ?_ (by repeat (first | exact lss_nil | apply lss_some | apply lss_none))
              show _ = addN n (colB (nearN (mkS s) a b) 0 0 (decide (a = b)))
              rw [decide_eq_true hab]
              unfold addN colB
              simp
    · rintro m hm
      have hk := kind_range (a, b)
      refine tr_cutS (S := Int) (fun z => z = m.2.2.1 + (if kindF (a, b) ≠ 0 ∧ kb ≠ kindF (a, b) then 1 else 0)) (fun z => eCnt s al (m.1, m.2.1, z, m.2.2.2) w (some (sh qI (i : Int))) (some (sh qC a)) (some (sh qC b)) (some (sh qW (kw (kindF (a, b))))) none) ?_ ?_
      · refine tr_last (tr_ifD (b := (!decide (kw (kindF (a, b)) = kwM)) && !decide (kw (kindF (a, b)) = w)) (et_andD (et_test (ev_neWD (ev_var rfl) (ev_word (l := kwM)))) fun _ => et_test (ev_neWD (ev_var rfl) (ev_var rfl))) (fun q => ?_) (fun q => tr_nil ?_))
        · rw [kw_gap hk hkb hw, Bool.and_eq_true, decide_eq_true_eq, decide_eq_true_eq] at q
          refine tr_asgD (r := qI) (x := m.2.2.1 + 1) (ev_i0D (ev_var rfl) ev_int) ?_
          refine tr_nx rfl (m.2.2.1 + 1) ?_ (by repeat (first | exact lss_nil | apply lss_some | apply lss_none))
          show _ = _
          rw [if_pos q]
        · rw [kw_gap hk hkb hw] at q
          have q2 : ¬ (kindF (a, b) ≠ 0 ∧ kb ≠ kindF (a, b)) := fun z => by
            rw [decide_eq_true z.1, decide_eq_true z.2] at q
            cases q
          refine tr_nx rfl m.2.2.1 ?_ (by repeat (first | exact lss_nil | apply lss_some | apply lss_none))
          show _ = _
          rw [if_neg q2, Int.add_zero]
      · rintro z hz2
        refine tr_last (tr_asgD (r := qW) (x := kw (kindF (a, b))) (ev_var rfl) ?_)
        refine tr_nx rfl ((m.1, m.2.1, z, m.2.2.2), kw (kindF (a, b))) (fin _ ?_) (by repeat (first | exact lss_nil | apply lss_some | apply lss_none))
        show ((m.1, m.2.1, z, m.2.2.2) : Nums) = _
        rw [col_gap, ← hm, hz2]
  · rintro xs ⟨_, rfl, hxs⟩ ⟨n, w⟩ ⟨-, hn, -⟩
    have hxl : xs.length = al.1.length := by rw [hxs]; simp
    have hn : n = (numsF (mkS s) ((al.1.zip al.2).take xs.length)).1 := hn
    rw [hxl, ← zl, List.take_length] at hn
    have ec : countsF (mkS s) al = outB (decide ((0 : Int) < s.1.length)) s.2.1 s.2.2 n := by rw [nums_counts, ← hn]; rfl
    show Tr _ (eCnt s al n w none none none none none) _ _
    refine tr_asgN (r := qI) (en_lst1 (p := (· = n.2.1)) (ev_var rfl)) ?_
    rintro _ ⟨_, rfl, rfl⟩
    refine tr_cutS (S := List Int) (fun l => l = (if decide ((0 : Int) < s.1.length) = true then [n.1, n.2.1] else [n.2.1])) (fun l => eCnt s al n w none none none none (some (ownL qI l))) ?_ ?_
    · refine tr_last (tr_ifD (b := decide ((0 : Int) < s.1.length)) (et_test (ev_b0D (ev_lenL (p := (· = s.1)) (pi := (· = (s.1.length : Int))) (ev_ix30 (ev_var rfl)) (by rintro _ rfl; rfl)) ev_int)) (fun q => ?_) (fun q => tr_nil ?_))
      · refine tr_asgN (r := qI) (en_lst2 (p := (· = n.1)) (p2 := (· = n.2.1)) (ev_var rfl) (ev_var rfl)) ?_
        rintro _ ⟨_, _, rfl, rfl, rfl⟩
        exact tr_nx rfl [n.1, n.2.1] (by rw [q]; rfl) (by repeat (first | exact lss_nil | apply lss_some | apply lss_none))
      · exact tr_nx rfl [n.2.1] (by rw [q]; rfl) (by repeat (first | exact lss_nil | apply lss_some | apply lss_none))
    rintro l hl
    have hll : l.length ≤ 2 := by rw [hl]; split <;> simp
    refine tr_cutS (S := List Int) (fun m => m = l ++ (if s.2.1 = true then [n.2.2.1] else [])) (fun m => eCnt s al n w none none none none (some (ownL qI m))) ?_ ?_
    · refine tr_last (tr_ifD (b := s.2.1) (et_B (ev_ix31 (ev_var rfl))) (fun q => ?_) (fun q => tr_nil ?_))
      · refine tr_appendD (i := 11) (x := n.2.2.1) rfl (ev_var rfl) (by omega) ?_
        exact tr_nx rfl (l ++ [n.2.2.1]) (by rw [q]; rfl) (by repeat (first | exact lss_nil | apply lss_some | apply lss_none))
      · exact tr_nx rfl l (by rw [q]; simp) (by repeat (first | exact lss_nil | apply lss_some | apply lss_none))
    rintro m hm
    have hml : m.length ≤ 3 := by rw [hm, List.length_append]; split <;> simp <;> omega
    have ec2 : countsF (mkS s) al = m ++ (if s.2.2 = true then [n.2.2.2.1, n.2.2.2.2] else [n.2.2.2.1 + n.2.2.2.2]) := by
      rw [ec, hm, hl]
      unfold outB
      rw [List.append_assoc]
    refine tr_share (i := 11) rfl (tr_share (i := 5) rfl ?_)
    refine tr_ifD (b := s.2.2) (et_B (ev_ix32 (ev_var rfl))) (fun q => ?_) (fun q => tr_nil ?_)
    · refine tr_retS (en_cat (r := qI) (p := (· = m)) (p2 := (· = [n.2.2.2.1, n.2.2.2.2])) (ev_var rfl) (fun _ _ => ev_var rfl) (by rintro _ _ rfl rfl; simp; omega)).ev hR ?_
      rintro _ ⟨_, _, rfl, rfl, rfl⟩
      show _ = countsF (mkS s) al
      rw [ec2, q]; rfl
    · refine tr_ret (en_cat (r := qI) (p := (· = m)) (p2 := (· = [n.2.2.2.1 + n.2.2.2.2])) (ev_var rfl) (fun _ _ => (en_lst1 (p := (· = n.2.2.2.1 + n.2.2.2.2)) (ev_sum (p := (· = [n.2.2.2.1, n.2.2.2.2])) (ev_var rfl) (by rintro _ rfl; simp))).ev.imp (by rintro _ ⟨_, rfl, rfl⟩; rfl)) (by rintro _ _ rfl rfl; simp; omega)).ev hR ?_
      rintro _ ⟨_, _, rfl, rfl, rfl⟩
      show _ = countsF (mkS s) al
      rw [ec2, q]; rfl
abbrev s_law_cost : Stmt := topS 75
abbrev N_law_cost : List Str := ["_law_counts_here", "_law_costs", "_law_k"]
theorem sc_law_cost : FnScope N_law_cost ["_law_counts_here", "_law_costs"] (defScope s_law_cost) := ⟨rfl, rfl, rfl, by decide +kernel, rfl, by decide +kernel, by decide +kernel⟩
theorem nd_law_cost : N_law_cost.Nodup := by decide +kernel
theorem bd_law_cost (kV doc pm : Value) (an : Option Addr) (cdv ct : Value) (us : List Value) (hl : us.length = List.length (α := Str) ["_law_counts_here", "_law_costs"]) : bindArgs (PySem.W.fnOf "_law_cost" "_law_cost" (defArgs s_law_cost) (defBody s_law_cost) (defScope s_law_cost) .none kV doc pm an cdv ct) ⟨us, []⟩ = pure (List.zip (α := Str) ["_law_counts_here", "_law_costs"] us) := match us, hl with | [_, _], _ => rfl

abbrev spCst : Sp := spOf (ι := List Int × List Int) (fun _ => none) (fun g => [sh (rL qI) g.1, sh (rL qI) g.2]) (fun g => g.1.length = g.2.length ∧ g.1.length ≤ 1000 ∧ ∀ v ∈ g.1, v.natAbs < 2 ^ 63) qI (fun g z => z = Rf.Dd.dt g.1 g.2)
theorem ok_cst (F : TF T CS CR aS) (D : Dn T "_law_cost" s_law_cost) : Cl T 1 "_law_cost" spCst := by
  refine cl_def D sc_law_cost bd_law_cost (fun _ => rfl) fun f cdv A outer s H E hr => ⟨_, (pss_one (ps_ret (pb (⟨rfl, rfl, rfl, rfl, rfl⟩ : At _ T) (cSum (⟨rfl, rfl, rfl, rfl, rfl⟩ : At _ T) rfl) rfl F.sum boot_sum (pa_cons (pe_lc (own := [("_law_k", 2)]) rfl nd_law_cost (piR (⟨rfl, rfl, rfl, rfl, rfl⟩ : At _ T) rfl F.range (pa_cons (pb (⟨rfl, rfl, rfl, rfl, rfl⟩ : At _ T) (cLen (⟨rfl, rfl, rfl, rfl, rfl⟩ : At _ T)) rfl F.len boot_len (pa_cons (pv 0) pa_nil)) pa_nil)) (blkOk_by (own := [("_law_k", 2)]) (N := N_law_cost) (sc := defScope s_law_cost) (by decide +kernel)) (fun _ _ _ _ _ => (pg_name (i := 2) nd_law_cost rfl (.inl rfl) (.inr rfl))) (fun _ _ _ _ _ => pts_nil) (fun _ _ _ _ _ => (pe_op op_mulS (ixL (⟨rfl, rfl, rfl, rfl, rfl⟩ : At _ T) (pv 0) (pv 2)) (ixL (⟨rfl, rfl, rfl, rfl, rfl⟩ : At _ T) (pv 1) (pv 2))))) pa_nil)))), ?_⟩
  rintro ⟨xs, ys⟩ Fm D eb ⟨h1, h2, h3⟩ hR -
  have h1 : xs.length = ys.length := h1
  have h2 : xs.length ≤ 1000 := h2
  have h3 : ∀ v ∈ xs, v.natAbs < 2 ^ 63 := h3
  show Tr Fm [some (sh (rL qI) xs), some (sh (rL qI) ys), none] _ _
  refine tr_ret (ev_sum (p := (· = (List.range xs.length).map fun k => xs.getD k 0 * ys.getD k 0)) (pi := (· = Rf.Dd.dt xs ys)) ((en_lc (r := qI) (b := fun _ => true) (q := fun (k z : Int) => z = xs.getD k.toNat 0 * ys.getD k.toNat 0) (ei_range (pi := (· = (xs.length : Int))) (ev_lenL (p := (· = xs)) (ev_var rfl) (by rintro _ rfl; rfl)) (by rintro _ rfl; omega) tg_name) (by decide) ?_ (fun _ _ _ _ => et_yes) ?_).ev.imp ?_) ?_) hR fun _ h => h
  · rintro _ ⟨_, rfl, rfl⟩; rw [List.length_map, List.length_range]; omega
  · rintro _ ⟨_, rfl, rfl⟩ k hk _
    obtain ⟨j, hj, rfl⟩ := List.mem_map.mp hk
    have hj : j < xs.length := by simpa using hj
    have hj2 : j < ys.length := by omega
    have ex : xs.getD j 0 = xs[j] := by rw [List.getD_eq_getElem?_getD, List.getElem?_eq_getElem hj]; rfl
    have ey : ys.getD j 0 = ys[j] := by rw [List.getD_eq_getElem?_getD, List.getElem?_eq_getElem hj2]; rfl
    refine ev_ii (pi := (· = xs.getD j 0)) (pj := (· = ys.getD j 0)) (ev_ixL (p := (· = xs)) (pi := (· = (j : Int))) (ev_var rfl) (fun _ _ => ev_var rfl) ?_) (ev_ixL (p := (· = ys)) (pi := (· = (j : Int))) (ev_var rfl) (fun _ _ => ev_var rfl) ?_) ?_ ?_
    · rintro _ _ rfl rfl; exact ⟨_, by omega, by show _[j]? = _; exact List.getElem?_eq_getElem hj, ex.symm⟩
    · rintro _ _ rfl rfl; exact ⟨_, by omega, by show _[j]? = _; exact List.getElem?_eq_getElem hj2, ey.symm⟩
    · rintro _ _ rfl rfl; rw [ex]; exact .inl (h3 _ (List.getElem_mem hj))
    · rintro _ _ rfl rfl; rfl
  · rintro z ⟨_, ⟨_, rfl, rfl⟩, h⟩
    rw [filter_true'] at h
    rw [paired_eq (f := fun k : Int => xs.getD k.toNat 0 * ys.getD k.toNat 0) h, List.map_map]
    rfl
  · rintro _ rfl; exact cost_range xs ys h1
abbrev s_law_made : Stmt := topS 76
abbrev N_law_made : List Str := ["_law_s"]
theorem sc_law_made : FnScope N_law_made ["_law_s"] (defScope s_law_made) := ⟨rfl, rfl, rfl, by decide +kernel, rfl, by decide +kernel, by decide +kernel⟩
theorem nd_law_made : N_law_made.Nodup := by decide +kernel
theorem bd_law_made (kV doc pm : Value) (an : Option Addr) (cdv ct : Value) (us : List Value) (hl : us.length = List.length (α := Str) ["_law_s"]) : bindArgs (PySem.W.fnOf "_law_made" "_law_made" (defArgs s_law_made) (defBody s_law_made) (defScope s_law_made) .none kV doc pm an cdv ct) ⟨us, []⟩ = pure (List.zip (α := Str) ["_law_s"] us) := match us, hl with | [_], _ => rfl

abbrev spMd (CS : Addr) : Sp := spOf (ι := SR) (fun _ => none) (fun g => [sh qSR g]) okS (qSc CS) (fun g z => z = mkS g)
theorem ok_md (F : TF T CS CR aS) (cScheme : Mc T 2 "Scheme" CS (spScheme CS)) (D : Dn T "_law_made" s_law_made) : Cl T 4 "_law_made" (spMd CS) := by
  refine cl_def D sc_law_made bd_law_made (fun _ => rfl) fun f cdv A outer s H E hr => ⟨_, (pss_one (ps_ret (pmk cScheme (⟨rfl, rfl, rfl, rfl, rfl⟩ : At _ T) hr (by decide) rfl (pa_cons (pbT (⟨rfl, rfl, rfl, rfl, rfl⟩ : At _ T) (cList (⟨rfl, rfl, rfl, rfl, rfl⟩ : At _ T)) rfl F.list boot_list (pa_cons (ixL (⟨rfl, rfl, rfl, rfl, rfl⟩ : At _ T) (pv 0) pe_int) pa_nil)) (pa_cons (ixL (⟨rfl, rfl, rfl, rfl, rfl⟩ : At _ T) (pv 0) pe_int) (pa_cons (ixL (⟨rfl, rfl, rfl, rfl, rfl⟩ : At _ T) (pv 0) pe_int) pa_nil)))))), ?_⟩
  rintro g Fm D eb hg hR -
  show Tr Fm [some (sh qSR g)] _ _
  refine tr_ret (r := qSc CS) (p := (· = mkS g)) (ev_make (ea_cons (r := rL qW) (p := (· = g.1)) (en_list (ev_ix30 (ev_var rfl))).ev fun x hx => ea_cons (r := qB) (p := (· = g.2.1)) (ev_ix31 (ev_var rfl)) fun y hy => ea_cons (r := qB) (p := (· = g.2.2)) (ev_ix32 (ev_var rfl)) fun z hz => ea_nil ⟨g, by rw [hx, hy, hz], hg, fun A a dx fs hA hφ => by
    obtain ⟨v1, v2, v3, e, q1, q2, q3⟩ := hφ
    subst e
    exact ⟨mkS g, rfl, a, dx, v1, v2, v3, rfl, upd_same, Mono.le (le_new hA) q1, q2, q3⟩⟩)) hR fun _ h => h
abbrev s_law_matches : Stmt := topS 79
abbrev N_law_matches : List Str := ["_law_alignment", "_law_out", "_law_i", "_law_j", "_law_k"]
theorem sc_law_matches : FnScope N_law_matches ["_law_alignment"] (defScope s_law_matches) := ⟨rfl, rfl, rfl, by decide +kernel, rfl, by decide +kernel, by decide +kernel⟩
theorem nd_law_matches : N_law_matches.Nodup := by decide +kernel
theorem bd_law_matches (kV doc pm : Value) (an : Option Addr) (cdv ct : Value) (us : List Value) (hl : us.length = List.length (α := Str) ["_law_alignment"]) : bindArgs (PySem.W.fnOf "_law_matches" "_law_matches" (defArgs s_law_matches) (defBody s_law_matches) (defScope s_law_matches) .none kV doc pm an cdv ct) ⟨us, []⟩ = pure (List.zip (α := Str) ["_law_alignment"] us) := match us, hl with | [_], _ => rfl

def pairT (p : Nat × Nat) : List Int := [(p.1 : Int), (p.2 : Int)]
theorem colsT_eq (al : List Nat × List Nat) : colsT al = (colsR 0 0 (al.1.zip al.2)).map pairT := rfl
theorem cols_len : ∀ (l : List (Nat × Nat)) (i j : Nat), (colsR i j l).length ≤ l.length
  | [], _, _ => Nat.le_refl _
  | c :: l, i, j => by
    have := cols_len l (i + if c.1 ≠ 45 then 1 else 0) (j + if c.2 ≠ 45 then 1 else 0)
    unfold colsR
    generalize colsR (i + if c.1 ≠ 45 then 1 else 0) (j + if c.2 ≠ 45 then 1 else 0) l = z at this ⊢
    rw [List.length_append, List.length_cons]
    split
    · rw [List.length_singleton]; omega
    · rw [List.length_nil]; omega
abbrev spMts2 (K : PySem.W.Frag) : Sp := spOf (ι := List Nat × List Nat) (fun _ => none) (fun g => [sh qAl g]) AlOk (rL (qTI K)) (fun g z => z = colsT g)
abbrev eMat (K : PySem.W.Frag) (al : List Nat × List Nat) (o : List (Nat × Nat)) (i j : Nat) (r : Option Ent) : EnvA := [some (sh qAl al), some (ownL (qTI K) (o.map pairT)), some (sh qI (i : Int)), some (sh qI (j : Int)), r]
theorem ok_mts (F : TF T CS CR aS) (D : Dn T "_law_matches" s_law_matches) : Cl T 1 "_law_matches" (spMts2 T.K) := by
  refine cl_def D sc_law_matches bd_law_matches (fun _ => rfl) fun f cdv A outer s H E hr => ⟨_, (pss_cons (ps_set (i := 1) nd_law_matches rfl (Or.inl rfl) (pe_lst pa_nil))
      (pss_cons (ps_set (i := 2) nd_law_matches rfl (Or.inl rfl) pe_int)
      (pss_cons (ps_set (i := 3) nd_law_matches rfl (Or.inl rfl) pe_int)
      (pss_cons (ps_for PassesOwn.never rfl (piR (⟨rfl, rfl, rfl, rfl, rfl⟩ : At _ T) rfl F.range (pa_cons (pb (⟨rfl, rfl, rfl, rfl, rfl⟩ : At _ T) cLenS rfl F.len boot_len (pa_cons (ixT (⟨rfl, rfl, rfl, rfl, rfl⟩ : At _ T) (pv 0) pe_int) pa_nil)) pa_nil)) (pg_name (i := 4) nd_law_matches rfl (.inl rfl) (.inl rfl)) (Evl.pss_cut (ps_if (PW.pt (pw_and (pt_cmpR op_ne (ixS (ixT (⟨rfl, rfl, rfl, rfl, rfl⟩ : At _ T) (pv 0) pe_int) (pv 4)) pe_str (nomark _)) (pw_and1 (pt_cmpR op_ne (ixS (ixT (⟨rfl, rfl, rfl, rfl, rfl⟩ : At _ T) (pv 0) pe_int) (pv 4)) pe_str (nomark _))))) (pss_one (ps_expr (pmAppend (⟨rfl, rfl, rfl, rfl, rfl⟩ : At _ T) (pv 1) (pa_cons (pe_tup (pa_cons (pv 2) (pa_cons (pv 3) pa_nil))) pa_nil)))) pss_nil)
      (pss_cons (ps_set (i := 2) nd_law_matches rfl (Or.inl rfl) (pe_op op_add (pv 2) (pbT (⟨rfl, rfl, rfl, rfl, rfl⟩ : At _ T) cInt rfl F.int boot_int (pa_cons (pe_cmpR op_ne (ixS (ixT (⟨rfl, rfl, rfl, rfl, rfl⟩ : At _ T) (pv 0) pe_int) (pv 4)) pe_str (nomark _)) pa_nil))))
      (pss_one (ps_set (i := 3) nd_law_matches rfl (Or.inl rfl) (pe_op op_add (pv 3) (pbT (⟨rfl, rfl, rfl, rfl, rfl⟩ : At _ T) cInt rfl F.int boot_int (pa_cons (pe_cmpR op_ne (ixS (ixT (⟨rfl, rfl, rfl, rfl, rfl⟩ : At _ T) (pv 0) pe_int) (pv 4)) pe_str (nomark _)) pa_nil))))))))
      (pss_one (ps_ret (pv 1))))))), ?_⟩
  rintro al Fm D eb hal hR -
  have hal : AlOk al := hal
  have h6 := hal.le
  have heq := hal.eq
  have zl : (al.1.zip al.2).length = al.1.length := by rw [List.length_zip]; omega
  show Tr Fm [some (sh qAl al), none, none, none, none] _ _
  refine tr_asgNE (r := qTI T.K) (xs := []) en_nil ?_
  refine tr_asgD (r := qI) (x := 0) ev_int ?_
  refine tr_asgD (r := qI) (x := 0) ev_int ?_
  refine tr_forS (S := List (Nat × Nat) × Nat × Nat) (ei_range (pi := (· = (al.1.length : Int))) (ev_lenW (pw := (· = al.1)) (ev_row1 (ev_var rfl)) (by rintro _ rfl; exact ⟨by omega, rfl⟩)) (by rintro _ rfl; omega) tg_name) (fun _ t st => colsR 0 0 (al.1.zip al.2) = st.1 ++ colsR st.2.1 st.2.2 ((al.1.zip al.2).drop t)) (fun st => eMat T.K al st.1 st.2.1 st.2.2 none) ?_ ?_ ?_
  · rintro xs -
    exact ⟨([], 0, 0), by simp, (by repeat (first | exact lss_nil | apply lss_some | apply lss_none))⟩
  · rintro xs ⟨_, rfl, hxs⟩ B t x hx ⟨o, i, j⟩ ho
    obtain ⟨rfl, ht⟩ := range_at hxs hx
    have ht : t < al.1.length := by simpa using ht
    have ho : colsR 0 0 (al.1.zip al.2) = o ++ colsR i j ((al.1.zip al.2).drop t) := ho
    have ht2 : t < al.2.length := by omega
    have ha : al.1[t]? = some al.1[t] := List.getElem?_eq_getElem ht
    have hb : al.2[t]? = some al.2[t] := List.getElem?_eq_getElem ht2
    have hc : (al.1.zip al.2).drop t = (al.1[t], al.2[t]) :: (al.1.zip al.2).drop (t + 1) := by rw [List.drop_eq_getElem_cons (by omega), List.getElem_zip]
    generalize al.1[t] = a at ha hc
    generalize al.2[t] = b at hb hc
    have hol : o.length ≤ 6 := by
      have q1 := cols_len (al.1.zip al.2) 0 0
      rw [ho, List.length_append] at q1
      omega
    rw [hc] at ho
    conv at ho => rhs; rhs; unfold colsR
    show Tr _ (eMat T.K al o i j (some (sh qI (t : Int)))) _ _
    have e1 : ∀ {Γ : EnvA}, Γ[0]? = some (some (sh qAl al)) → Γ[4]? = some (some (sh qI (t : Int))) → Ev (Fm.at B).bx (tOp rIxS (tOp (rIxT T.K) (tVar 0) (tC (.int 0))) (tVar 4)) Γ qC (· = a) := fun {Γ} g0 g4 => ev_ixW (pw := (· = al.1)) (pi := (· = (t : Int))) (pc := (· = a)) (ev_row1 (ev_var g0)) (ev_var g4) (by rintro _ _ rfl rfl; exact ⟨by omega, a, by omega, ha, rfl⟩)
    have e2 : ∀ {Γ : EnvA}, Γ[0]? = some (some (sh qAl al)) → Γ[4]? = some (some (sh qI (t : Int))) → Ev (Fm.at B).bx (tOp rIxS (tOp (rIxT T.K) (tVar 0) (tC (.int 1))) (tVar 4)) Γ qC (· = b) := fun {Γ} g0 g4 => ev_ixW (pw := (· = al.2)) (pi := (· = (t : Int))) (pc := (· = b)) (ev_row2 (ev_var g0)) (ev_var g4) (by rintro _ _ rfl rfl; exact ⟨by omega, b, by omega, hb, rfl⟩)
    refine tr_cutS (S := List (Nat × Nat)) (fun o' => o' = o ++ if a ≠ 45 ∧ b ≠ 45 then [(i, j)] else []) (fun o' => eMat T.K al o' i j (some (sh qI (t : Int)))) ?_ ?_
    · refine tr_last (tr_ifD (b := !decide (a = 45) && !decide (b = 45)) (et_andD (et_test (ev_neCD (e1 rfl rfl) ev_sign)) fun _ => et_test (ev_neCD (e2 rfl rfl) ev_sign)) (fun q => ?_) (fun q => tr_nil ?_))
      · have q2 : a ≠ 45 ∧ b ≠ 45 := by simpa using q
        refine tr_appendD (i := 1) (r := qTI T.K) (x := pairT (i, j)) rfl (ev_tupI2 (ev_var rfl) (ev_var rfl)) (by rw [List.length_map]; omega) ?_
        refine tr_nx rfl (o ++ [(i, j)]) (by rw [if_pos q2]) ?_
        show lss (eMat T.K al (o ++ [(i, j)]) i j _) _
        unfold eMat
        rw [List.map_append]
        exact (by repeat (first | exact lss_nil | apply lss_some | apply lss_none))
      · have q2 : ¬ (a ≠ 45 ∧ b ≠ 45) := fun z => by
          rw [decide_eq_false z.1, decide_eq_false z.2] at q
          cases q
        exact tr_nx rfl o (by rw [if_neg q2, List.append_nil]) (by repeat (first | exact lss_nil | apply lss_some | apply lss_none))
    · rintro o' rfl
      have ei : ∀ (n c : Nat), (n : Int) + b2 (!decide (c = 45)) = ((n + if c ≠ 45 then 1 else 0 : Nat) : Int) := fun n c => by
        by_cases h : c = 45 <;> simp [h, b2]
      refine tr_asgD (r := qI) (x := ((i + if a ≠ 45 then 1 else 0 : Nat) : Int)) ((ev_i0D (x := (i : Int)) (y := b2 (!decide (a = 45))) (ev_var rfl) (ev_intBD (ev_neCD (e1 rfl rfl) ev_sign))).imp fun _ h => h.trans (ei i a)) ?_
      refine tr_last (tr_asgD (r := qI) (x := ((j + if b ≠ 45 then 1 else 0 : Nat) : Int)) ((ev_i0D (x := (j : Int)) (y := b2 (!decide (b = 45))) (ev_var rfl) (ev_intBD (ev_neCD (e2 rfl rfl) ev_sign))).imp fun _ h => h.trans (ei j b)) ?_)
      refine tr_nx rfl (o ++ (if a ≠ 45 ∧ b ≠ 45 then [(i, j)] else []), (i + if a ≠ 45 then 1 else 0), (j + if b ≠ 45 then 1 else 0)) ?_ (by repeat (first | exact lss_nil | apply lss_some | apply lss_none))
      show _ = (o ++ _) ++ _
      rw [ho, List.append_assoc]
  · rintro xs ⟨_, rfl, hxs⟩ ⟨o, i, j⟩ ho
    have hxl : xs.length = al.1.length := by rw [hxs]; simp
    have ho : colsR 0 0 (al.1.zip al.2) = o ++ colsR i j ((al.1.zip al.2).drop xs.length) := ho
    rw [List.drop_eq_nil_of_le (by omega)] at ho
    unfold colsR at ho
    refine tr_share (i := 1) rfl (tr_retD (ev_var rfl) hR ?_)
    show o.map pairT = colsT al
    rw [colsT_eq]
    have : colsR 0 0 (al.1.zip al.2) = o := by
      unfold colsR
      rw [ho]; simp
    rw [this]
end
end Rf
/-! WkP: the law's defs, third part: best ones, what is told. -/
namespace Rf
open PySem PySem.Spec PyProof.Rows L2
section
variable {T : Tx} {CS CR aS : Addr} {β : Option Addr} {Γ : EnvA} {te ta : TE} {K : PySem.W.Frag} {α : Type} {r : RP α}
theorem ev_lenLD [Mono r] {xs : List α} (h : Ev β ta Γ (rL r) (· = xs)) : Ev β (tCB (rLen2 K) (tCons ta tNil)) Γ qI (· = (xs.length : Int)) := ev_lenL (p := (· = xs)) h (by rintro _ rfl; rfl)
def pr (s : SR) (c : List Int) (al : List Nat × List Nat) : Int := Rf.Dd.dt (countsF (mkS s) al) c
structure PrOk (s : SR) (x y : List Nat) (c : List Int) : Prop where
  g : s.1.length ≤ 4
  lx : x.length ≤ 3
  ly : y.length ≤ 3
  ox : okA x
  oy : okA y
  lc : c.length = (mkS s).size.toNat
theorem PrOk.al {s : SR} {x y : List Nat} {c : List Int} (h : PrOk s x y c) {al : List Nat × List Nat} (ha : al ∈ Al x y) : AlOk al := alOk_of h.lx h.ly h.ox h.oy ha
theorem en_prices {i0 ic ie ia : Nat} {E E' : XK} {s : SR} {x y : List Nat} {c : List Int} (ok : PrOk s x y c) (he : Γ[ie]? = some (some (sh (rL qAl) (Al x y)))) (h0 : ∀ al, (setsE (wipeE Γ [ia]) [ia] [sh qAl al])[i0]? = some (some (sh qSR s)))
    (h1 : ∀ al, (setsE (wipeE Γ [ia]) [ia] [sh qAl al])[ic]? = some (some (sh (rL qI) c))) (h2 : ∀ al, (setsE (wipeE Γ [ia]) [ia] [sh qAl al])[ia]? = some (some (sh qAl al))) :
    EvN β (tLc (iList K (tVar ie)) (gName ia) tYes (tCall spCst [] E (tCons (tCall spCnt [] E' (tCons (tVar i0) (tCons (tVar ia) tNil))) (tCons (tVar ic) tNil))) [ia]) Γ qI (· = (Al x y).map (pr s c)) :=
  (en_lc (r := qI) (b := fun _ => true) (q := fun (al : List Nat × List Nat) (z : Int) => z = pr s c al) (ei_list (p := (· = Al x y)) (ev_var he) tg_name) (fun _ h => h) (by rintro _ rfl; have := al_63 ok.lx ok.ly; omega) (fun _ _ _ _ => et_yes) (by
    rintro _ rfl al hal _
    have ao := ok.al hal
    have ce := cnt_ent (sc := mkS s) (e := al) ao.le
    have hsz := size_range (mkS s)
    exact ev_call2D (x1 := countsF (mkS s) al) (ev_call2D (ev_var (h0 al)) (ev_var (h2 al)) (s, al) rfl ⟨ok.g, ao⟩ fun _ h => h) (ev_var (h1 al)) (countsF (mkS s) al, c) rfl ⟨by show _ = c.length; rw [ce.1, ok.lc], by show (countsF (mkS s) al).length ≤ 1000; rw [ce.1]; omega, fun v hv => by
      have := ce.2 v hv
      have h6 : v.natAbs ≤ 6 := by omega
      exact Nat.lt_of_le_of_lt h6 (by decide)⟩ fun _ h => h)).imp (by
    rintro z ⟨_, rfl, h⟩
    rw [filter_true'] at h
    exact paired_eq (f := pr s c) h)
theorem best_places {α : Type} (l : List α) (d : α) (p : α → Bool) : (((List.range l.length).map Int.ofNat).filter fun k => p (l.getD k.toNat d)).map (fun k => l.getD k.toNat d) = l.filter p := by
  rw [List.filter_map, List.map_map]
  exact filter_places l d p
theorem en_bests {ie ip ik : Nat} {s : SR} {x y : List Nat} {c : List Int} (ok : PrOk s x y c) (he0 : Γ[ie]? = some (some (sh (rL qAl) (Al x y)))) (he : ∀ k, (setsE (wipeE Γ [ik]) [ik] [sh qI k])[ie]? = some (some (sh (rL qAl) (Al x y))))
    (hp : ∀ k, (setsE (wipeE Γ [ik]) [ik] [sh qI k])[ip]? = some (some (sh (rL qI) ((Al x y).map (pr s c))))) (hk : ∀ k, (setsE (wipeE Γ [ik]) [ik] [sh qI k])[ik]? = some (some (sh qI k))) :
    EvN β (tLc (iRng1 (tCons (tCB (rLen2 K) (tCons (tVar ie) tNil)) tNil)) (gName ik) (tTest (tOp rEq (tOp (rIxL K) (tVar ip) (tVar ik)) (tCB (rMin K) (tCons (tVar ip) tNil)))) (tOp (rIxL K) (tVar ie) (tVar ik)) [ik]) Γ qAl (· = bestL (mkS s) x y c) := by
  have h63 := al_63 ok.lx ok.ly
  have hne := al_ne x y
  have hpos : 0 < (Al x y).length := by
    cases h : Al x y with
    | nil => exact (hne h).elim
    | cons a l => simp
  refine (en_lc (r := qAl) (b := fun k => decide (∀ o ∈ Al x y, pr s c ((Al x y).getD k.toNat ([], [])) ≤ pr s c o)) (q := fun (k : Int) (z : List Nat × List Nat) => z = (Al x y).getD k.toNat ([], [])) (ei_range (pi := (· = ((Al x y).length : Int))) (ev_lenLD (ev_var he0)) (by rintro _ rfl; omega) tg_name) (fun _ h => h) ?_ ?_ ?_).imp ?_
  · rintro _ ⟨_, rfl, rfl⟩; rw [List.length_map, List.length_range]; omega
  · rintro _ ⟨_, rfl, rfl⟩ k hk'
    obtain ⟨j, hj, rfl⟩ := List.mem_map.mp hk'
    have hj : j < (Al x y).length := by simpa using hj
    have eg : (Al x y).getD j ([], []) = (Al x y)[j] := by rw [List.getD_eq_getElem?_getD, List.getElem?_eq_getElem hj]; rfl
    refine et_test (ev_eqI (pi := (· = pr s c ((Al x y).getD j ([], [])))) (pj := fun m => m ∈ (Al x y).map (pr s c) ∧ ∀ z ∈ (Al x y).map (pr s c), m ≤ z) (ev_ixL (p := (· = (Al x y).map (pr s c))) (pi := (· = (j : Int))) (ev_var (hp _)) (fun _ _ => ev_var (hk _)) ?_) (ev_min (p := (· = (Al x y).map (pr s c))) (ev_var (hp _)) ?_ ?_) ?_)
    · rintro _ _ rfl rfl
      exact ⟨_, by omega, by show _[j]? = _; rw [List.getElem?_map, List.getElem?_eq_getElem hj]; rfl, by rw [eg]⟩
    · rintro _ rfl; rw [List.length_map]; exact hpos
    · rintro _ m rfl h1 h2; exact ⟨h1, h2⟩
    · rintro _ m rfl ⟨h1, h2⟩
      show decide (_ = m) = decide _
      rw [decide_eq_decide]
      have hm : pr s c ((Al x y).getD j ([], [])) ∈ (Al x y).map (pr s c) := by rw [eg]; exact List.mem_map_of_mem (List.getElem_mem hj)
      constructor
      · rintro rfl o ho
        exact h2 _ (List.mem_map_of_mem ho)
      · intro h
        obtain ⟨o, ho, rfl⟩ := List.mem_map.mp h1
        exact Int.le_antisymm (h o ho) (h2 _ hm)
  · rintro _ ⟨_, rfl, rfl⟩ k hk' _
    obtain ⟨j, hj, rfl⟩ := List.mem_map.mp hk'
    have hj : j < (Al x y).length := by simpa using hj
    refine ev_ixL (p := (· = Al x y)) (pi := (· = (j : Int))) (ev_var (he _)) (fun _ _ => ev_var (hk _)) ?_
    rintro _ _ rfl rfl
    exact ⟨_, by omega, by show _[j]? = _; exact List.getElem?_eq_getElem hj, by show _ = List.getD _ j _; rw [List.getD_eq_getElem?_getD, List.getElem?_eq_getElem hj]; rfl⟩
  · rintro z ⟨_, ⟨_, rfl, rfl⟩, h⟩
    rw [paired_eq (f := fun k : Int => (Al x y).getD k.toNat ([], [])) h]
    exact best_places (Al x y) ([], []) fun al => decide (∀ o ∈ Al x y, pr s c al ≤ pr s c o)
theorem best_ne (s : SR) (x y : List Nat) (c : List Int) : bestL (mkS s) x y c ≠ [] := fun e => by
  obtain ⟨m, hm, hl⟩ := least_of (fun al => Rf.Dd.dt (countsF (mkS s) al) c) (Al x y) (al_ne x y)
  have := mem_best.mpr ⟨hm, hl⟩
  rw [e] at this
  cases this
abbrev s_law_likely : Stmt := topS 77
abbrev N_law_likely : List Str := ["_law_box", "_law_s", "_law_first", "_law_second", "_law_every", "_law_costs", "_law_k", "_law_prices", "_law_alignment", "_law_best_here"]
theorem sc_law_likely : FnScope N_law_likely ["_law_box", "_law_s", "_law_first", "_law_second"] (defScope s_law_likely) := ⟨rfl, rfl, rfl, by decide +kernel, rfl, by decide +kernel, by decide +kernel⟩
theorem nd_law_likely : N_law_likely.Nodup := by decide +kernel
theorem bd_law_likely (kV doc pm : Value) (an : Option Addr) (cdv ct : Value) (us : List Value) (hl : us.length = List.length (α := Str) ["_law_box", "_law_s", "_law_first", "_law_second"]) : bindArgs (PySem.W.fnOf "_law_likely" "_law_likely" (defArgs s_law_likely) (defBody s_law_likely) (defScope s_law_likely) .none kV doc pm an cdv ct) ⟨us, []⟩ = pure (List.zip (α := Str) ["_law_box", "_law_s", "_law_first", "_law_second"] us) := match us, hl with | [_, _, _, _], _ => rfl

abbrev spLk : Sp := spOf (ι := Addr × SR × List Nat × List Nat) (fun g => some g.1) (fun g => [boxE g.1, sh qSR g.2.1, sh qW g.2.2.1, sh qW g.2.2.2]) (fun g => g.2.1.1.length ≤ 4 ∧ g.2.2.1.length ≤ 3 ∧ g.2.2.2.length ≤ 3 ∧ okA g.2.2.1 ∧ okA g.2.2.2) qAl (fun g z => z ∈ Al g.2.2.1 g.2.2.2)
theorem ok_lk (F : TF T CS CR aS) (c_law_all : Cl T 7 "_law_all" (spAll 7)) (c_law_draw : Cl T 1 "_law_draw" spDraw) (c_law_size : Cl T 1 "_law_size" spSz) (c_law_cost : Cl T 1 "_law_cost" spCst) (c_law_counts : Cl T 2 "_law_counts" spCnt) (D : Dn T "_law_likely" s_law_likely) : Cl T 8 "_law_likely" spLk := by
  refine cl_def D sc_law_likely bd_law_likely (fun _ => rfl) fun f cdv A outer s H E hr => ⟨_, (pss_cons (ps_set (i := 4) nd_law_likely rfl (Or.inr rfl) (pc c_law_all (⟨rfl, rfl, rfl, rfl, rfl⟩ : At _ T) hr (by decide) rfl (pa_cons (pv 2) (pa_cons (pv 3) pa_nil))))
      (pss_cons (ps_if (pt_cmpR op_eq (pc c_law_draw (⟨rfl, rfl, rfl, rfl, rfl⟩ : At _ T) hr (by decide) rfl (pa_cons (pv 0) (pa_cons pe_int pa_nil))) pe_int (nomark _)) (pss_one (ps_ret (ixL (⟨rfl, rfl, rfl, rfl, rfl⟩ : At _ T) (pv 4) (pe_op op_mod (pbT (⟨rfl, rfl, rfl, rfl, rfl⟩ : At _ T) cInt rfl F.int boot_int (pa_cons (pe_op op_add (pe_op op_mulS (pc c_law_draw (⟨rfl, rfl, rfl, rfl, rfl⟩ : At _ T) hr (by decide) rfl (pa_cons (pv 0) (pa_cons pe_int pa_nil))) pe_int) (pc c_law_draw (⟨rfl, rfl, rfl, rfl, rfl⟩ : At _ T) hr (by decide) rfl (pa_cons (pv 0) (pa_cons pe_int pa_nil)))) pa_nil)) (pb (⟨rfl, rfl, rfl, rfl, rfl⟩ : At _ T) (cLen (⟨rfl, rfl, rfl, rfl, rfl⟩ : At _ T)) rfl F.len boot_len (pa_cons (pv 4) pa_nil)))))) pss_nil)
      (pss_cons (ps_set (i := 5) nd_law_likely rfl (Or.inr rfl) (pe_lc (own := [("_law_k", 6)]) rfl nd_law_likely (piR (⟨rfl, rfl, rfl, rfl, rfl⟩ : At _ T) rfl F.range (pa_cons (pc c_law_size (⟨rfl, rfl, rfl, rfl, rfl⟩ : At _ T) hr (by decide) rfl (pa_cons (pv 1) pa_nil)) pa_nil)) (blkOk_by (own := [("_law_k", 6)]) (N := N_law_likely) (sc := defScope s_law_likely) (by decide +kernel)) (fun _ _ _ _ _ => (pg_name (i := 6) nd_law_likely rfl (.inl rfl) (.inr rfl))) (fun _ _ _ _ _ => pts_nil) (fun _ _ _ _ _ => (pe_op op_add pe_int (pc c_law_draw (⟨rfl, rfl, rfl, rfl, rfl⟩ : At _ T) hr (by decide) rfl (pa_cons (pv 0) (pa_cons pe_int pa_nil)))))))
      (pss_cons (ps_set (i := 7) nd_law_likely rfl (Or.inr rfl) (pe_lc (own := [("_law_alignment", 8)]) rfl nd_law_likely (piL (⟨rfl, rfl, rfl, rfl, rfl⟩ : At _ T) (pv 4)) (blkOk_by (own := [("_law_alignment", 8)]) (N := N_law_likely) (sc := defScope s_law_likely) (by decide +kernel)) (fun _ _ _ _ _ => (pg_name (i := 8) nd_law_likely rfl (.inl rfl) (.inr rfl))) (fun _ _ _ _ _ => pts_nil) (fun _ _ _ _ _ => (pc c_law_cost (⟨rfl, rfl, rfl, rfl, rfl⟩ : At _ T) hr (by decide) rfl (pa_cons (pc c_law_counts (⟨rfl, rfl, rfl, rfl, rfl⟩ : At _ T) hr (by decide) rfl (pa_cons (pv 1) (pa_cons (pv 8) pa_nil))) (pa_cons (pv 5) pa_nil))))))
      (pss_cons (ps_setLc (i := 9) (own := [("_law_k", 6)]) rfl nd_law_likely rfl rfl (sw_true rfl rfl rfl rfl) (piR (⟨rfl, rfl, rfl, rfl, rfl⟩ : At _ T) rfl F.range (pa_cons (pb (⟨rfl, rfl, rfl, rfl, rfl⟩ : At _ T) (cLen (⟨rfl, rfl, rfl, rfl, rfl⟩ : At _ T)) rfl F.len boot_len (pa_cons (pv 4) pa_nil)) pa_nil)) (blkOk_by (own := [("_law_k", 6)]) (N := N_law_likely) (sc := defScope s_law_likely) (by decide +kernel)) (fun _ _ _ _ _ => (pg_name (i := 6) nd_law_likely rfl (.inl rfl) (.inr rfl))) (fun _ _ _ _ _ => (pts_one (pt_cmpR op_eq (ixL (⟨rfl, rfl, rfl, rfl, rfl⟩ : At _ T) (pv 7) (pv 6)) (pb (⟨rfl, rfl, rfl, rfl, rfl⟩ : At _ T) (cMin (⟨rfl, rfl, rfl, rfl, rfl⟩ : At _ T) rfl) rfl F.min boot_min (pa_cons (pv 7) pa_nil)) (nomark _)))) (fun _ _ _ _ _ => (ixL (⟨rfl, rfl, rfl, rfl, rfl⟩ : At _ T) (pv 4) (pv 6))))
      (pss_one (ps_ret (ixL (⟨rfl, rfl, rfl, rfl, rfl⟩ : At _ T) (pv 9) (pe_op op_mod (pbT (⟨rfl, rfl, rfl, rfl, rfl⟩ : At _ T) cInt rfl F.int boot_int (pa_cons (pc c_law_draw (⟨rfl, rfl, rfl, rfl, rfl⟩ : At _ T) hr (by decide) rfl (pa_cons (pv 0) (pa_cons pe_int pa_nil))) pa_nil)) (pb (⟨rfl, rfl, rfl, rfl, rfl⟩ : At _ T) (cLen (⟨rfl, rfl, rfl, rfl, rfl⟩ : At _ T)) rfl F.len boot_len (pa_cons (pv 9) pa_nil))))))))))), ?_⟩
  rintro ⟨b, s, x, y⟩ Fm D eb ⟨hg, hx, hy, ox, oy⟩ hR -
  have hg : s.1.length ≤ 4 := hg
  have hx : x.length ≤ 3 := hx
  have hy : y.length ≤ 3 := hy
  have eb : Fm.bx = some b := eb
  have h63 := al_63 hx hy
  have hne := al_ne x y
  have hpos : 0 < (Al x y).length := by
    cases h : Al x y with
    | nil => exact (hne h).elim
    | cons a l => simp
  have hsz := size_range (mkS s)
  show Tr Fm [some (boxE b), some (sh qSR s), some (sh qW x), some (sh qW y), none, none, none, none, none, none] _ _
  refine tr_asgD (r := rL qAl) (x := Al x y) (ev_call2D (ev_var rfl) (ev_var rfl) (x, y) rfl ⟨show x.length + y.length < 7 by omega, hx, hy⟩ fun _ h => h) ?_
  show Tr Fm [some (boxE b), some (sh qSR s), some (sh qW x), some (sh qW y), some (sh (rL qAl) (Al x y)), none, none, none, none, none] _ _
  refine tr_if (q := fun _ => True) (et_test (ev_eqI (pi := fun z => 0 ≤ z ∧ z < 4) (pj := (· = 0)) (ev_drawD eb rfl ev_int (by decide)) ev_int fun _ _ _ _ => trivial)) (fun _ => ?_) (fun _ => tr_nil ?_)
  · refine tr_retS (ev_ixL (r := qAl) (p := (· = Al x y)) (p3 := fun z => z ∈ Al x y) (pi := fun z => 0 ≤ z ∧ z < ((Al x y).length : Int)) (ev_var rfl) (fun _ _ => ev_ii (pi := fun _ => True) (pj := (· = ((Al x y).length : Int))) (ev_intI (ev_i0 (pi := fun _ => True) (pj := fun z => 0 ≤ z ∧ z < 7) (ev_ii (pi := fun z => 0 ≤ z ∧ z < 840) (pj := (· = 7)) (ev_drawD eb rfl ev_int (by decide)) ev_int (by rintro _ _ _ rfl; exact .inr (by decide)) fun _ _ _ _ => trivial) (ev_drawD eb rfl ev_int (by decide)) fun _ _ _ _ => trivial)) (ev_lenLD (ev_var rfl)) (by rintro _ _ _ rfl; show (0 : Int) < _; omega) ?_) ?_) hR fun _ h => h
    · rintro z _ _ rfl
      exact ⟨Int.emod_nonneg _ (by omega), Int.emod_lt_of_pos _ (by omega)⟩
    · rintro _ z rfl ⟨z0, z1⟩
      have hz : z.toNat < (Al x y).length := by omega
      exact ⟨_, z0, List.getElem?_eq_getElem hz, List.getElem_mem hz⟩
  · refine tr_asgN (r := qI) (q := fun c => c.length = (mkS s).size.toNat) ((en_lc (r := qI) (b := fun _ => true) (q := fun (_ _ : Int) => True) (ei_range (pi := (· = (mkS s).size)) (ev_szD (ev_var rfl)) (by rintro _ rfl; omega) tg_name) (by decide) ?_ (fun _ _ _ _ => et_yes) ?_).imp ?_) ?_
    · rintro _ ⟨_, rfl, rfl⟩; rw [List.length_map, List.length_range]; omega
    · rintro _ ⟨_, rfl, rfl⟩ k _ _
      exact ev_i0 (pi := (· = 1)) (pj := fun z => 0 ≤ z ∧ z < 4) ev_int (ev_drawD eb rfl ev_int (by decide)) fun _ _ _ _ => trivial
    · rintro z ⟨_, ⟨_, rfl, rfl⟩, h⟩
      rw [filter_true'] at h
      have := paired_len h
      rw [List.length_map, List.length_range] at this
      exact this.symm
    intro c hc
    have hok : PrOk s x y c := ⟨hg, hx, hy, ox, oy, hc⟩
    refine tr_share (i := 5) rfl ?_
    show Tr Fm [some (boxE b), some (sh qSR s), some (sh qW x), some (sh qW y), some (sh (rL qAl) (Al x y)), some (sh (rL qI) c), none, none, none, none] _ _
    refine tr_asgNE (r := qI) (xs := (Al x y).map (pr s c)) (en_prices (i0 := 1) (ic := 5) (ie := 4) (ia := 8) hok rfl (fun _ => rfl) (fun _ => rfl) fun _ => rfl) ?_
    refine tr_share (i := 7) rfl ?_
    show Tr Fm [some (boxE b), some (sh qSR s), some (sh qW x), some (sh qW y), some (sh (rL qAl) (Al x y)), some (sh (rL qI) c), none, some (sh (rL qI) ((Al x y).map (pr s c))), none, none] _ _
    refine tr_asgNE (r := qAl) (xs := bestL (mkS s) x y c) (en_bests (ie := 4) (ip := 7) (ik := 6) hok rfl (fun _ => rfl) (fun _ => rfl) fun _ => rfl) ?_
    refine tr_share (i := 9) rfl ?_
    have hbp : 0 < (bestL (mkS s) x y c).length := by
      cases h : bestL (mkS s) x y c with
      | nil => exact (best_ne s x y c h).elim
      | cons a l => simp
    obtain ⟨bl, hbl⟩ : ∃ bl, bestL (mkS s) x y c = bl := ⟨_, rfl⟩
    rw [hbl] at hbp ⊢
    show Tr Fm [some (boxE b), some (sh qSR s), some (sh qW x), some (sh qW y), some (sh (rL qAl) (Al x y)), some (sh (rL qI) c), none, some (sh (rL qI) ((Al x y).map (pr s c))), none, some (sh (rL qAl) bl)] _ _
    refine tr_ret (ev_ixL (r := qAl) (p := (· = bl)) (p3 := fun z => z ∈ bl) (pi := fun z => 0 ≤ z ∧ z < (bl.length : Int)) (ev_var rfl) (fun _ _ => ev_ii (pi := fun z => 0 ≤ z ∧ z < 840) (pj := (· = (bl.length : Int))) (ev_intI (ev_drawD eb rfl ev_int (by decide))) (ev_lenLD (ev_var rfl)) (by rintro _ _ _ rfl; show (0 : Int) < _; omega) ?_) ?_) hR ?_
    · rintro z _ _ rfl
      exact ⟨Int.emod_nonneg _ (by omega), Int.emod_lt_of_pos _ (by omega)⟩
    · rintro l z el ⟨z0, z1⟩
      have hz : z.toNat < bl.length := by omega
      exact ⟨_, z0, by rw [el]; exact List.getElem?_eq_getElem hz, List.getElem_mem hz⟩
    · intro z hz
      rw [← hbl] at hz
      exact (mem_best.mp hz).1
abbrev s_law_examples : Stmt := topS 78
abbrev N_law_examples : List Str := ["_law_box", "_law_s", "_law_most", "_law_many", "_law_out", "_law_k", "_law_first"]
theorem sc_law_examples : FnScope N_law_examples ["_law_box", "_law_s", "_law_most", "_law_many"] (defScope s_law_examples) := ⟨rfl, rfl, rfl, by decide +kernel, rfl, by decide +kernel, by decide +kernel⟩
theorem nd_law_examples : N_law_examples.Nodup := by decide +kernel
theorem bd_law_examples (kV doc pm : Value) (an : Option Addr) (cdv ct : Value) (us : List Value) (hl : us.length = List.length (α := Str) ["_law_box", "_law_s", "_law_most", "_law_many"]) : bindArgs (PySem.W.fnOf "_law_examples" "_law_examples" (defArgs s_law_examples) (defBody s_law_examples) (defScope s_law_examples) .none kV doc pm an cdv ct) ⟨us, []⟩ = pure (List.zip (α := Str) ["_law_box", "_law_s", "_law_most", "_law_many"] us) := match us, hl with | [_, _, _, _], _ => rfl

theorem ev_wordD {b : Addr} {i n : Nat} {E : XK} (hβ : β = some b) (h : Γ[i]? = some (some (boxE b))) (hm : Ev β te Γ qI (· = (n : Int))) (hn : n ≤ 3) : Ev β (tCall spWord [] E (tCons (tVar i) (tCons te tNil))) Γ qW fun z => z.length ≤ n ∧ okA z :=
  ev_callB (ea_box h (ea_cons hm fun m hm => ea_nil ⟨(b, n), hβ.symm, by rw [hm], hn, fun z hz => hz⟩))
abbrev spEx : Sp := spOf (ι := Addr × SR × Nat × Nat) (fun g => some g.1) (fun g => [boxE g.1, sh qSR g.2.1, sh qI (g.2.2.1 : Int), sh qI (g.2.2.2 : Int)]) (fun g => g.2.1.1.length ≤ 4 ∧ g.2.2.1 ≤ 3 ∧ g.2.2.2 ≤ 2) (rL qAl) (fun g z => z.length = g.2.2.2 ∧ ∀ e ∈ z, ExOk e)
theorem ok_ex (F : TF T CS CR aS) (c_law_word : Cl T 2 "_law_word" spWord) (c_law_likely : Cl T 8 "_law_likely" spLk) (D : Dn T "_law_examples" s_law_examples) : Cl T 9 "_law_examples" spEx := by
  refine cl_def D sc_law_examples bd_law_examples (fun _ => rfl) fun f cdv A outer s H E hr => ⟨_, (pss_cons (ps_set (i := 4) nd_law_examples rfl (Or.inl rfl) (pe_lst pa_nil))
      (pss_cons (ps_for PassesOwn.never rfl (piR (⟨rfl, rfl, rfl, rfl, rfl⟩ : At _ T) rfl F.range (pa_cons (pv 3) pa_nil)) (pg_name (i := 5) nd_law_examples rfl (.inl rfl) (.inl rfl)) (pss_cons (ps_set (i := 6) nd_law_examples rfl (Or.inl rfl) (pc c_law_word (⟨rfl, rfl, rfl, rfl, rfl⟩ : At _ T) hr (by decide) rfl (pa_cons (pv 0) (pa_cons (pv 2) pa_nil))))
      (pss_one (ps_expr (pmAppend (⟨rfl, rfl, rfl, rfl, rfl⟩ : At _ T) (pv 4) (pa_cons (pc c_law_likely (⟨rfl, rfl, rfl, rfl, rfl⟩ : At _ T) hr (by decide) rfl (pa_cons (pv 0) (pa_cons (pv 1) (pa_cons (pv 6) (pa_cons (pc c_law_word (⟨rfl, rfl, rfl, rfl, rfl⟩ : At _ T) hr (by decide) rfl (pa_cons (pv 0) (pa_cons (pv 2) pa_nil))) pa_nil))))) pa_nil))))))
      (pss_one (ps_ret (pv 4))))), ?_⟩
  rintro ⟨b, s, most, many⟩ Fm D eb ⟨hg, hm, hn⟩ hR -
  have hg : s.1.length ≤ 4 := hg
  have hm : most ≤ 3 := hm
  have hn : many ≤ 2 := hn
  have eb : Fm.bx = some b := eb
  show Tr Fm [some (boxE b), some (sh qSR s), some (sh qI (most : Int)), some (sh qI (many : Int)), none, none, none] _ _
  refine tr_asgNE (r := qAl) (xs := []) en_nil ?_
  refine tr_forS (S := List (List Nat × List Nat)) (ei_range (pi := (· = (many : Int))) (ev_var rfl) (by rintro _ rfl; omega) tg_name) (fun _ i l => l.length = i ∧ ∀ e ∈ l, ExOk e) (fun l => [some (boxE b), some (sh qSR s), some (sh qI (most : Int)), some (sh qI (many : Int)), some (ownL qAl l), none, none]) ?_ ?_ ?_
  · rintro xs -
    exact ⟨[], ⟨rfl, fun _ h => nomatch h⟩, (by repeat (first | exact lss_nil | apply lss_some | apply lss_none))⟩
  · rintro xs ⟨_, rfl, hxs⟩ B i k hk l ⟨hl, hle⟩
    obtain ⟨rfl, hi⟩ := range_at hxs hk
    show Tr _ [some (boxE b), some (sh qSR s), some (sh qI (most : Int)), some (sh qI (many : Int)), some (ownL qAl l), some (sh qI (i : Int)), none] _ _
    refine tr_asg (r := qW) (p := fun z => z.length ≤ most ∧ okA z) (ev_wordD eb rfl (ev_var rfl) hm) ?_
    rintro x ⟨hx, ox⟩
    show Tr _ [some (boxE b), some (sh qSR s), some (sh qI (most : Int)), some (sh qI (many : Int)), some (ownL qAl l), some (sh qI (i : Int)), some (sh qW x)] _ _
    refine tr_last (tr_append (i := 4) (r := qAl) (p := ExOk) rfl (ev_callB (ea_box rfl (ea_cons (r := qSR) (p := (· = s)) (ev_var rfl) fun s' hs' => ea_cons (r := qW) (p := (· = x)) (ev_var rfl) fun x' hx' => ea_cons (r := qW) (p := fun z => z.length ≤ most ∧ okA z) (ev_wordD eb rfl (ev_var rfl) hm) fun y hy => ea_nil ⟨(b, s, x, y), eb.symm, by rw [hs', hx'], ⟨hg, Nat.le_trans hx hm, Nat.le_trans hy.1 hm, ox, hy.2⟩, fun z hz => exOk_of (Nat.le_trans hx hm) (Nat.le_trans hy.1 hm) ox hy.2 hz⟩))) (by omega) ?_)
    intro e he
    refine tr_nx rfl (l ++ [e]) ⟨by rw [List.length_append, hl]; rfl, fun e' h' => ?_⟩ (by repeat (first | exact lss_nil | apply lss_some | apply lss_none))
    rcases List.mem_append.mp h' with q | q
    · exact hle e' q
    · rw [List.mem_singleton.mp q]; exact he
  · rintro xs ⟨_, rfl, hxs⟩ l ⟨hl, hle⟩
    exact tr_share (i := 4) rfl (tr_retD (ev_var rfl) hR ⟨by rw [hl, hxs]; simp, hle⟩)
abbrev s_law_best : Stmt := topS 80
abbrev N_law_best : List Str := ["_law_s", "_law_first", "_law_second", "_law_costs", "_law_every", "_law_prices", "_law_alignment", "_law_k"]
theorem sc_law_best : FnScope N_law_best ["_law_s", "_law_first", "_law_second", "_law_costs"] (defScope s_law_best) := ⟨rfl, rfl, rfl, by decide +kernel, rfl, by decide +kernel, by decide +kernel⟩
theorem nd_law_best : N_law_best.Nodup := by decide +kernel
theorem bd_law_best (kV doc pm : Value) (an : Option Addr) (cdv ct : Value) (us : List Value) (hl : us.length = List.length (α := Str) ["_law_s", "_law_first", "_law_second", "_law_costs"]) : bindArgs (PySem.W.fnOf "_law_best" "_law_best" (defArgs s_law_best) (defBody s_law_best) (defScope s_law_best) .none kV doc pm an cdv ct) ⟨us, []⟩ = pure (List.zip (α := Str) ["_law_s", "_law_first", "_law_second", "_law_costs"] us) := match us, hl with | [_, _, _, _], _ => rfl

abbrev spBst : Sp := spOf (ι := SR × List Nat × List Nat × List Int) (fun _ => none) (fun g => [sh qSR g.1, sh qW g.2.1, sh qW g.2.2.1, sh (rL qI) g.2.2.2]) (fun g => PrOk g.1 g.2.1 g.2.2.1 g.2.2.2) (rL qAl) (fun g z => z = bestL (mkS g.1) g.2.1 g.2.2.1 g.2.2.2)
theorem ok_bst (F : TF T CS CR aS) (c_law_all : Cl T 7 "_law_all" (spAll 7)) (c_law_cost : Cl T 1 "_law_cost" spCst) (c_law_counts : Cl T 2 "_law_counts" spCnt) (D : Dn T "_law_best" s_law_best) : Cl T 8 "_law_best" spBst := by
  refine cl_def D sc_law_best bd_law_best (fun _ => rfl) fun f cdv A outer s H E hr => ⟨_, (pss_cons (ps_set (i := 4) nd_law_best rfl (Or.inr rfl) (pc c_law_all (⟨rfl, rfl, rfl, rfl, rfl⟩ : At _ T) hr (by decide) rfl (pa_cons (pv 1) (pa_cons (pv 2) pa_nil))))
      (pss_cons (ps_set (i := 5) nd_law_best rfl (Or.inr rfl) (pe_lc (own := [("_law_alignment", 6)]) rfl nd_law_best (piL (⟨rfl, rfl, rfl, rfl, rfl⟩ : At _ T) (pv 4)) (blkOk_by (own := [("_law_alignment", 6)]) (N := N_law_best) (sc := defScope s_law_best) (by decide +kernel)) (fun _ _ _ _ _ => (pg_name (i := 6) nd_law_best rfl (.inl rfl) (.inr rfl))) (fun _ _ _ _ _ => pts_nil) (fun _ _ _ _ _ => (pc c_law_cost (⟨rfl, rfl, rfl, rfl, rfl⟩ : At _ T) hr (by decide) rfl (pa_cons (pc c_law_counts (⟨rfl, rfl, rfl, rfl, rfl⟩ : At _ T) hr (by decide) rfl (pa_cons (pv 0) (pa_cons (pv 6) pa_nil))) (pa_cons (pv 3) pa_nil))))))
      (pss_one (ps_ret (pe_lc (own := [("_law_k", 7)]) rfl nd_law_best (piR (⟨rfl, rfl, rfl, rfl, rfl⟩ : At _ T) rfl F.range (pa_cons (pb (⟨rfl, rfl, rfl, rfl, rfl⟩ : At _ T) (cLen (⟨rfl, rfl, rfl, rfl, rfl⟩ : At _ T)) rfl F.len boot_len (pa_cons (pv 4) pa_nil)) pa_nil)) (blkOk_by (own := [("_law_k", 7)]) (N := N_law_best) (sc := defScope s_law_best) (by decide +kernel)) (fun _ _ _ _ _ => (pg_name (i := 7) nd_law_best rfl (.inl rfl) (.inr rfl))) (fun _ _ _ _ _ => (pts_one (pt_cmpR op_eq (ixL (⟨rfl, rfl, rfl, rfl, rfl⟩ : At _ T) (pv 5) (pv 7)) (pb (⟨rfl, rfl, rfl, rfl, rfl⟩ : At _ T) (cMin (⟨rfl, rfl, rfl, rfl, rfl⟩ : At _ T) rfl) rfl F.min boot_min (pa_cons (pv 5) pa_nil)) (nomark _)))) (fun _ _ _ _ _ => (ixL (⟨rfl, rfl, rfl, rfl, rfl⟩ : At _ T) (pv 4) (pv 7)))))))), ?_⟩
  rintro ⟨s, x, y, c⟩ Fm D eb hok hR -
  have hok : PrOk s x y c := hok
  have hx := hok.lx
  have hy := hok.ly
  show Tr Fm [some (sh qSR s), some (sh qW x), some (sh qW y), some (sh (rL qI) c), none, none, none, none] _ _
  refine tr_asgD (r := rL qAl) (x := Al x y) (ev_call2D (ev_var rfl) (ev_var rfl) (x, y) rfl ⟨show x.length + y.length < 7 by omega, hx, hy⟩ fun _ h => h) ?_
  show Tr Fm [some (sh qSR s), some (sh qW x), some (sh qW y), some (sh (rL qI) c), some (sh (rL qAl) (Al x y)), none, none, none] _ _
  refine tr_asgNE (r := qI) (xs := (Al x y).map (pr s c)) (en_prices (i0 := 0) (ic := 3) (ie := 4) (ia := 6) hok rfl (fun _ => rfl) (fun _ => rfl) fun _ => rfl) ?_
  refine tr_share (i := 5) rfl ?_
  show Tr Fm [some (sh qSR s), some (sh qW x), some (sh qW y), some (sh (rL qI) c), some (sh (rL qAl) (Al x y)), some (sh (rL qI) ((Al x y).map (pr s c))), none, none] _ _
  exact tr_ret (en_bests (ie := 4) (ip := 5) (ik := 7) hok rfl (fun _ => rfl) (fun _ => rfl) fun _ => rfl).ev hR fun _ h => h
abbrev s_law_explains : Stmt := topS 81
abbrev N_law_explains : List Str := ["_law_s", "_law_examples_here", "_law_costs", "_law_alignment"]
theorem sc_law_explains : FnScope N_law_explains ["_law_s", "_law_examples_here", "_law_costs"] (defScope s_law_explains) := ⟨rfl, rfl, rfl, by decide +kernel, rfl, by decide +kernel, by decide +kernel⟩
theorem nd_law_explains : N_law_explains.Nodup := by decide +kernel
theorem bd_law_explains (kV doc pm : Value) (an : Option Addr) (cdv ct : Value) (us : List Value) (hl : us.length = List.length (α := Str) ["_law_s", "_law_examples_here", "_law_costs"]) : bindArgs (PySem.W.fnOf "_law_explains" "_law_explains" (defArgs s_law_explains) (defBody s_law_explains) (defScope s_law_explains) .none kV doc pm an cdv ct) ⟨us, []⟩ = pure (List.zip (α := Str) ["_law_s", "_law_examples_here", "_law_costs"] us) := match us, hl with | [_, _, _], _ => rfl

abbrev spXp : Sp := spOf (ι := SR × List (List Nat × List Nat) × List Int) (fun _ => none) (fun g => [sh qSR g.1, sh (rL qAl) g.2.1, sh (rL qI) g.2.2]) (fun g => g.1.1.length ≤ 4 ∧ (∀ e ∈ g.2.1, ExOk e) ∧ g.2.2.length = (mkS g.1).size.toNat) qB (fun g z => z = true → ∀ e ∈ g.2.1, e ∈ bestL (mkS g.1) (bareF e.1) (bareF e.2) g.2.2)
theorem best_al {s : SR} {x y : List Nat} {c : List Int} (h : PrOk s x y c) : ∀ al ∈ bestL (mkS s) x y c, AlOk al := fun al ha => h.al (mem_best.mp ha).1
theorem ok_xp (F : TF T CS CR aS) (c_law_best : Cl T 8 "_law_best" spBst) (c_law_plain : Cl T 1 "_law_plain" spPlain) (D : Dn T "_law_explains" s_law_explains) : Cl T 9 "_law_explains" spXp := by
  refine cl_def D sc_law_explains bd_law_explains (fun _ => rfl) fun f cdv A outer s H E hr => ⟨_, (pss_cons (ps_for PassesOwn.never rfl (piL (⟨rfl, rfl, rfl, rfl, rfl⟩ : At _ T) (pv 1)) (pg_name (i := 3) nd_law_explains rfl (.inl rfl) (.inl rfl)) (pss_one (ps_if (pt_cmpR (oNotInD (⟨rfl, rfl, rfl, rfl, rfl⟩ : At _ T) hr) (pv 3) (pc c_law_best (⟨rfl, rfl, rfl, rfl, rfl⟩ : At _ T) hr (by decide) rfl (pa_cons (pv 0) (pa_cons (pc c_law_plain (⟨rfl, rfl, rfl, rfl, rfl⟩ : At _ T) hr (by decide) rfl (pa_cons (ixT (⟨rfl, rfl, rfl, rfl, rfl⟩ : At _ T) (pv 3) pe_int) pa_nil)) (pa_cons (pc c_law_plain (⟨rfl, rfl, rfl, rfl, rfl⟩ : At _ T) hr (by decide) rfl (pa_cons (ixT (⟨rfl, rfl, rfl, rfl, rfl⟩ : At _ T) (pv 3) pe_int) pa_nil)) (pa_cons (pv 2) pa_nil))))) rfl) (pss_one (ps_ret pe_bl)) pss_nil)))
      (pss_one (ps_ret pe_bl))), ?_⟩
  rintro ⟨s, exs, c⟩ Fm D eb ⟨hg, hex, hc⟩ hR -
  have hg : s.1.length ≤ 4 := hg
  have hex : ∀ e ∈ exs, ExOk e := hex
  have hc : c.length = (mkS s).size.toNat := hc
  show Tr Fm [some (sh qSR s), some (sh (rL qAl) exs), some (sh (rL qI) c), none] _ _
  refine tr_forS (S := Unit) (ei_list (p := (· = exs)) (ev_var rfl) tg_name) (fun _ i _ => ∀ e ∈ exs.take i, e ∈ bestL (mkS s) (bareF e.1) (bareF e.2) c) (fun _ => [some (sh qSR s), some (sh (rL qAl) exs), some (sh (rL qI) c), none]) ?_ ?_ ?_
  · rintro xs -
    exact ⟨(), (fun e h => by rw [List.take_zero] at h; cases h), (by repeat (first | exact lss_nil | apply lss_some | apply lss_none))⟩
  · rintro xs hxs B i e he _ hI
    rw [hxs] at he
    have hE := hex e (List.mem_of_getElem? he)
    have ao := hE.alOk
    have ao1 := ao.le
    have ao2 := ao.eq
    have hok : PrOk s (bareF e.1) (bareF e.2) c := ⟨hg, hE.l1, hE.l2, hE.a1, hE.a2, hc⟩
    show Tr _ [some (sh qSR s), some (sh (rL qAl) exs), some (sh (rL qI) c), some (sh qAl e)] _ _
    refine tr_last (tr_ifD (b := !decide (e ∈ bestL (mkS s) (bareF e.1) (bareF e.2) c)) (et_test (ev_niData (r := qAl) (p1 := (· = e)) (p2 := (· = bestL (mkS s) (bareF e.1) (bareF e.2) c)) dat_al (ev_var rfl) (ev_call4D (x2 := bareF e.1) (x3 := bareF e.2) (ev_var rfl) (ev_call1D (ev_row1 (ev_var rfl)) e.1 rfl (show e.1.length ≤ 1000 by omega) fun _ h => h) (ev_call1D (ev_row2 (ev_var rfl)) e.2 rfl (show e.2.length ≤ 1000 by omega) fun _ h => h) (ev_var rfl) (s, bareF e.1, bareF e.2, c) rfl hok fun _ h => h) ?_ ?_ ?_)) (fun q => ?_) (fun q => tr_nil ?_))
    · rintro _ rfl; exact ⟨ao.s1, ao.s2⟩
    · rintro _ rfl al ha
      have := best_al hok al ha
      exact ⟨this.s1, this.s2⟩
    · rintro _ _ rfl rfl; exact congrArg not (decide_eq_decide.mpr Iff.rfl)
    · exact tr_retS ev_bl hR fun z e h => by rw [e] at h; cases h
    · refine tr_nx rfl () (fun e' h' => ?_) (by repeat (first | exact lss_nil | apply lss_some | apply lss_none))
      rw [take_succ' he] at h'
      rcases List.mem_append.mp h' with h' | h'
      · exact hI e' h'
      · rw [List.mem_singleton.mp h']
        simpa using q
  · rintro xs hxs _ hI
    rw [hxs, List.take_length] at hI
    exact tr_retD ev_bl hR fun _ => hI
abbrev s_law_holds : Stmt := topS 82
abbrev N_law_holds : List Str := ["_law_s", "_law_told", "_law_alignments", "_law_alignment", "_law_columns", "_law_pair"]
theorem sc_law_holds : FnScope N_law_holds ["_law_s", "_law_told", "_law_alignments"] (defScope s_law_holds) := ⟨rfl, rfl, rfl, by decide +kernel, rfl, by decide +kernel, by decide +kernel⟩
theorem nd_law_holds : N_law_holds.Nodup := by decide +kernel
theorem bd_law_holds (kV doc pm : Value) (an : Option Addr) (cdv ct : Value) (us : List Value) (hl : us.length = List.length (α := Str) ["_law_s", "_law_told", "_law_alignments"]) : bindArgs (PySem.W.fnOf "_law_holds" "_law_holds" (defArgs s_law_holds) (defBody s_law_holds) (defScope s_law_holds) .none kV doc pm an cdv ct) ⟨us, []⟩ = pure (List.zip (α := Str) ["_law_s", "_law_told", "_law_alignments"] us) := match us, hl with | [_, _, _], _ => rfl

abbrev qTold (K : PySem.W.Frag) : RP Told := qL3 (rL (rL qI)) (rL (qTI K)) (rL (qTI K))
abbrev spHd (K : PySem.W.Frag) : Sp := spOf (ι := SR × Told × List (List Nat × List Nat)) (fun _ => none) (fun g => [sh qSR g.1, sh (qTold K) g.2.1, sh (rL qAl) g.2.2]) (fun g => g.1.1.length ≤ 4 ∧ g.2.1.2.1.length ≤ 1000 ∧ ∀ al ∈ g.2.2, AlOk al) qB (fun g z => (∀ al ∈ g.2.2, HoldP (mkS g.1) g.2.1 al) → z = true)
theorem ev_niP {k : List Int} {l : List (List Int)} (h1 : Ev β ta Γ (qTI K) (· = k)) (h2 : Ev β te Γ (rL (qTI K)) (· = l)) : Ev β (tOp (rNotInD K) ta te) Γ qB (· = !decide (k ∈ l)) :=
  ev_niData (r := qTI K) (p1 := (· = k)) (p2 := (· = l)) dat_tup h1 h2 (fun _ _ => trivial) (fun _ _ _ _ => trivial) (by rintro _ _ rfl rfl; exact congrArg not (decide_eq_decide.mpr Iff.rfl))
theorem any_not {l m : List (List Int)} : (l.any fun k => !decide (k ∈ m)) = true ↔ ¬ ∀ k ∈ l, k ∈ m := by
  rw [List.any_eq_true]
  constructor
  · rintro ⟨k, h1, h2⟩ h
    have := h k h1
    simp [this] at h2
  · intro h
    apply Classical.byContradiction
    intro z
    apply h
    intro k hk
    apply Classical.byContradiction
    intro q
    exact z ⟨k, hk, by simp [q]⟩
theorem ok_hd (F : TF T CS CR aS) (c_law_matches : Cl T 1 "_law_matches" (spMts2 T.K)) (c_law_counts : Cl T 2 "_law_counts" spCnt) (D : Dn T "_law_holds" s_law_holds) : Cl T 3 "_law_holds" (spHd T.K) := by
  refine cl_def D sc_law_holds bd_law_holds (fun _ => rfl) fun f cdv A outer s H E hr => ⟨_, (pss_cons (ps_for PassesOwn.never rfl (piL (⟨rfl, rfl, rfl, rfl, rfl⟩ : At _ T) (pv 2)) (pg_name (i := 3) nd_law_holds rfl (.inl rfl) (.inl rfl)) (pss_cons (ps_set (i := 4) nd_law_holds rfl (Or.inr rfl) (pc c_law_matches (⟨rfl, rfl, rfl, rfl, rfl⟩ : At _ T) hr (by decide) rfl (pa_cons (pv 3) pa_nil)))
      (pss_cons (ps_if (pt_cmpR (oNotInD (⟨rfl, rfl, rfl, rfl, rfl⟩ : At _ T) hr) (pc c_law_counts (⟨rfl, rfl, rfl, rfl, rfl⟩ : At _ T) hr (by decide) rfl (pa_cons (pv 0) (pa_cons (pv 3) pa_nil))) (ixL (⟨rfl, rfl, rfl, rfl, rfl⟩ : At _ T) (pv 1) pe_int) rfl) (pss_one (ps_ret pe_bl)) pss_nil)
      (pss_cons (ps_if (pt_cmpR op_gt (pb (⟨rfl, rfl, rfl, rfl, rfl⟩ : At _ T) (cLen (⟨rfl, rfl, rfl, rfl, rfl⟩ : At _ T)) rfl F.len boot_len (pa_cons (pe_lc (own := [("_law_pair", 5)]) rfl nd_law_holds (piL (⟨rfl, rfl, rfl, rfl, rfl⟩ : At _ T) (ixL (⟨rfl, rfl, rfl, rfl, rfl⟩ : At _ T) (pv 1) pe_int)) (blkOk_by (own := [("_law_pair", 5)]) (N := N_law_holds) (sc := defScope s_law_holds) (by decide +kernel)) (fun _ _ _ _ _ => (pg_name (i := 5) nd_law_holds rfl (.inl rfl) (.inr rfl))) (fun _ _ _ _ _ => (pts_one (pt_cmpR (oNotInD (⟨rfl, rfl, rfl, rfl, rfl⟩ : At _ T) hr) (pv 5) (pv 4) rfl))) (fun _ _ _ _ _ => (pv 5))) pa_nil)) pe_int (nomark _)) (pss_one (ps_ret pe_bl)) pss_nil)
      (pss_one (ps_if (pt_cmpR op_gt (pb (⟨rfl, rfl, rfl, rfl, rfl⟩ : At _ T) (cLen (⟨rfl, rfl, rfl, rfl, rfl⟩ : At _ T)) rfl F.len boot_len (pa_cons (pe_lc (own := [("_law_pair", 5)]) rfl nd_law_holds (piL (⟨rfl, rfl, rfl, rfl, rfl⟩ : At _ T) (pv 4)) (blkOk_by (own := [("_law_pair", 5)]) (N := N_law_holds) (sc := defScope s_law_holds) (by decide +kernel)) (fun _ _ _ _ _ => (pg_name (i := 5) nd_law_holds rfl (.inl rfl) (.inr rfl))) (fun _ _ _ _ _ => (pts_one (pt_cmpR (oNotInD (⟨rfl, rfl, rfl, rfl, rfl⟩ : At _ T) hr) (pv 5) (ixL (⟨rfl, rfl, rfl, rfl, rfl⟩ : At _ T) (pv 1) pe_int) rfl))) (fun _ _ _ _ _ => (pv 5))) pa_nil)) pe_int (nomark _)) (pss_one (ps_ret pe_bl)) pss_nil))))))
      (pss_one (ps_ret pe_bl))), ?_⟩
  rintro ⟨s, t, als⟩ Fm D eb ⟨hg, ht, hal⟩ hR -
  have hg : s.1.length ≤ 4 := hg
  have ht : t.2.1.length ≤ 1000 := ht
  have hal : ∀ al ∈ als, AlOk al := hal
  show Tr Fm [some (sh qSR s), some (sh (qTold T.K) t), some (sh (rL qAl) als), none, none, none] _ _
  refine tr_forS (S := Unit) (ei_list (p := (· = als)) (ev_var rfl) tg_name) (fun _ _ _ => True) (fun _ => [some (sh qSR s), some (sh (qTold T.K) t), some (sh (rL qAl) als), none, none, none]) ?_ ?_ ?_
  · rintro xs -
    exact ⟨(), trivial, (by repeat (first | exact lss_nil | apply lss_some | apply lss_none))⟩
  · rintro xs hxs B i al ha _ -
    rw [hxs] at ha
    have hm := List.mem_of_getElem? ha
    have ao := hal al hm
    show Tr _ [some (sh qSR s), some (sh (qTold T.K) t), some (sh (rL qAl) als), some (sh qAl al), none, none] _ _
    refine tr_asgD (r := rL (qTI T.K)) (x := colsT al) (ev_call1D (ev_var rfl) al rfl ao fun _ h => h) ?_
    have hcl : (colsT al).length ≤ 6 := by
      rw [colsT_eq, List.length_map]
      have h1 := cols_len (al.1.zip al.2) 0 0
      have h2 := ao.le
      rw [List.length_zip] at h1
      omega
    generalize hcols : colsT al = cols at hcl
    show Tr _ [some (sh qSR s), some (sh (qTold T.K) t), some (sh (rL qAl) als), some (sh qAl al), some (sh (rL (qTI T.K)) cols), none] _ _
    refine tr_ifD (b := !decide (countsF (mkS s) al ∈ t.1)) (et_test (ev_niData (r := rL qI) (p1 := (· = countsF (mkS s) al)) (p2 := (· = t.1)) dat_ints (ev_call2D (ev_var rfl) (ev_var rfl) (s, al) rfl ⟨hg, ao⟩ fun _ h => h) (ev_ix30 (ev_var rfl)) (fun _ _ => trivial) (fun _ _ _ _ => trivial) (by rintro _ _ rfl rfl; exact congrArg not (decide_eq_decide.mpr Iff.rfl)))) (fun q => ?_) (fun q => tr_nil ?_)
    · refine tr_retS ev_bl hR fun z e h => ?_
      have := (h al hm).a
      simp at q
      exact (q this).elim
    refine tr_ifD (b := t.2.1.any fun k => !decide (k ∈ cols)) (et_test ((ev_b0D (x := ((t.2.1.filter fun k => !decide (k ∈ cols)).length : Int)) (y := 0) (ev_lenLD (xs := t.2.1.filter fun k => !decide (k ∈ cols)) ((en_lc (r := qTI T.K) (b := fun k => !decide (k ∈ cols)) (q := fun (k z : List Int) => z = k) (ei_list (p := (· = t.2.1)) (ev_ix31 (ev_var rfl)) tg_name) (by decide) ?_ ?_ fun _ _ k _ _ => ev_var rfl).ev.imp ?_)) ev_int).imp ?_)) (fun q => ?_) (fun q => tr_nil ?_)
    · rintro _ rfl; omega
    · rintro _ rfl k _
      exact et_test (ev_niP (ev_var rfl) (ev_var rfl))
    · rintro z ⟨_, rfl, h⟩
      rw [paired_eq (f := fun k : List Int => k) h, List.map_id']
    · rintro _ rfl; exact any_filter _ _
    · refine tr_retS ev_bl hR fun z e h => ?_
      have := (h al hm).b
      rw [hcols] at this
      exact (any_not.mp q this).elim
    refine tr_last (tr_ifD (b := cols.any fun k => !decide (k ∈ t.2.2)) (et_test ((ev_b0D (x := ((cols.filter fun k => !decide (k ∈ t.2.2)).length : Int)) (y := 0) (ev_lenLD (xs := cols.filter fun k => !decide (k ∈ t.2.2)) ((en_lc (r := qTI T.K) (b := fun k => !decide (k ∈ t.2.2)) (q := fun (k z : List Int) => z = k) (ei_list (p := (· = cols)) (ev_var rfl) tg_name) (by decide) ?_ ?_ fun _ _ k _ _ => ev_var rfl).ev.imp ?_)) ev_int).imp ?_)) (fun q => ?_) (fun q => tr_nil ?_))
    · rintro _ rfl; omega
    · rintro _ rfl k _
      exact et_test (ev_niP (ev_var rfl) (ev_ix32 (ev_var rfl)))
    · rintro z ⟨_, rfl, h⟩
      rw [paired_eq (f := fun k : List Int => k) h, List.map_id']
    · rintro _ rfl; exact any_filter _ _
    · refine tr_retS ev_bl hR fun z e h => ?_
      have := (h al hm).c
      rw [hcols] at this
      exact (any_not.mp q this).elim
    · exact tr_nx rfl () trivial (by repeat (first | exact lss_nil | apply lss_some | apply lss_none))
  · rintro xs hxs _ -
    exact tr_retD ev_bl hR fun _ => rfl
abbrev s_law_foretold : Stmt := topS 83
abbrev N_law_foretold : List Str := ["_law_scheme_here", "_law_examples_here", "_law_first", "_law_second", "_law_told"]
theorem sc_law_foretold : FnScope N_law_foretold ["_law_scheme_here", "_law_examples_here", "_law_first", "_law_second"] (defScope s_law_foretold) := ⟨rfl, rfl, rfl, by decide +kernel, rfl, by decide +kernel, by decide +kernel⟩
theorem nd_law_foretold : N_law_foretold.Nodup := by decide +kernel
theorem bd_law_foretold (kV doc pm : Value) (an : Option Addr) (cdv ct : Value) (us : List Value) (hl : us.length = List.length (α := Str) ["_law_scheme_here", "_law_examples_here", "_law_first", "_law_second"]) : bindArgs (PySem.W.fnOf "_law_foretold" "_law_foretold" (defArgs s_law_foretold) (defBody s_law_foretold) (defScope s_law_foretold) .none kV doc pm an cdv ct) ⟨us, []⟩ = pure (List.zip (α := Str) ["_law_scheme_here", "_law_examples_here", "_law_first", "_law_second"] us) := match us, hl with | [_, _, _, _], _ => rfl

abbrev spFt (CS : Addr) (K : PySem.W.Frag) : Sp := spOf (ι := Sc × List (List Nat × List Nat) × List Nat × List Nat) (fun _ => none) (fun g => [sh (qSc CS) g.1, sh (rL qAl) g.2.1, sh qW g.2.2.1, sh qW g.2.2.2]) (fun g => okG g.1 g.2.1 ∧ okXY (g.1, g.2.2)) (qTold K) (fun g z => TellF g.1 g.2.1 g.2.2.1 g.2.2.2 z)
theorem ok_ft (F : TF T CS CR aS) (cbest_for_some : Cl T 9 "best_for_some" (spBest CS)) (ccertain_for_all : Cl T 11 "certain_for_all" (spCertain CS T)) (cpossible_for_some : Cl T 11 "possible_for_some" (spPossS CS T)) (D : Dn T "_law_foretold" s_law_foretold) : Cl T 12 "_law_foretold" (spFt CS T.K) := by
  refine cl_def D sc_law_foretold bd_law_foretold (fun _ => rfl) fun f cdv A outer s H E hr => ⟨_, (pss_cons (ps_set (i := 4) nd_law_foretold rfl (Or.inl rfl) (pe_lst (pa_cons (pc cbest_for_some (⟨rfl, rfl, rfl, rfl, rfl⟩ : At _ T) hr (by decide) rfl (pa_cons (pv 0) (pa_cons (pbT (⟨rfl, rfl, rfl, rfl, rfl⟩ : At _ T) (cList (⟨rfl, rfl, rfl, rfl, rfl⟩ : At _ T)) rfl F.list boot_list (pa_cons (pv 1) pa_nil)) (pa_cons (pv 2) (pa_cons (pv 3) pa_nil))))) (pa_cons (pc ccertain_for_all (⟨rfl, rfl, rfl, rfl, rfl⟩ : At _ T) hr (by decide) rfl (pa_cons (pv 0) (pa_cons (pbT (⟨rfl, rfl, rfl, rfl, rfl⟩ : At _ T) (cList (⟨rfl, rfl, rfl, rfl, rfl⟩ : At _ T)) rfl F.list boot_list (pa_cons (pv 1) pa_nil)) (pa_cons (pv 2) (pa_cons (pv 3) pa_nil))))) pa_nil))))
      (pss_one (ps_ret (pe_op op_cat (pv 4) (pe_lst (pa_cons (pc cpossible_for_some (⟨rfl, rfl, rfl, rfl, rfl⟩ : At _ T) hr (by decide) rfl (pa_cons (pv 0) (pa_cons (pbT (⟨rfl, rfl, rfl, rfl, rfl⟩ : At _ T) (cList (⟨rfl, rfl, rfl, rfl, rfl⟩ : At _ T)) rfl F.list boot_list (pa_cons (pv 1) pa_nil)) (pa_cons (pv 2) (pa_cons (pv 3) pa_nil))))) pa_nil)))))), ?_⟩
  rintro ⟨sc, exs, x, y⟩ Fm D eb ⟨hok, hxy⟩ hR -
  have hok : okG sc exs := hok
  have hxy : okXY (sc, x, y) := hxy
  show Tr Fm [some (sh (qSc CS) sc), some (sh (rL qAl) exs), some (sh qW x), some (sh qW y), none] _ _
  refine tr_asg (r := qL2 (rL (rL qI)) (rL (qTI T.K))) (p := fun z => BestF sc exs x y z.1 ∧ CerF sc exs x y z.2) (ev_l2 (p1 := fun z => BestF sc exs x y z) (p2 := fun z => CerF sc exs x y z) (ev_call4D (ev_var rfl) (en_list (ev_var rfl)).ev (ev_var rfl) (ev_var rfl) (sc, exs, x, y) rfl ⟨hok, hxy⟩ fun _ h => h) (ev_call4D (ev_var rfl) (en_list (ev_var rfl)).ev (ev_var rfl) (ev_var rfl) (sc, exs, x, y) rfl ⟨hok, hxy⟩ fun _ h => h)) ?_
  rintro t ⟨h1, h2⟩
  refine tr_ret (ev_cat21 (p := (· = t)) (p3 := fun z => PosF sc exs x y z) (ev_var rfl) (ev_call4D (ev_var rfl) (en_list (ev_var rfl)).ev (ev_var rfl) (ev_var rfl) (sc, exs, x, y) rfl ⟨hok, hxy⟩ fun _ h => h)) hR ?_
  rintro ⟨a, b, c⟩ ⟨e, h3⟩
  have e : (a, b) = t := e
  subst e
  exact ⟨h1, h2, h3⟩
abbrev s_law_small : Stmt := topS 84
abbrev N_law_small : List Str := ["_law_box", "_law_s", "_law_k"]
theorem sc_law_small : FnScope N_law_small ["_law_box", "_law_s"] (defScope s_law_small) := ⟨rfl, rfl, rfl, by decide +kernel, rfl, by decide +kernel, by decide +kernel⟩
theorem nd_law_small : N_law_small.Nodup := by decide +kernel
theorem bd_law_small (kV doc pm : Value) (an : Option Addr) (cdv ct : Value) (us : List Value) (hl : us.length = List.length (α := Str) ["_law_box", "_law_s"]) : bindArgs (PySem.W.fnOf "_law_small" "_law_small" (defArgs s_law_small) (defBody s_law_small) (defScope s_law_small) .none kV doc pm an cdv ct) ⟨us, []⟩ = pure (List.zip (α := Str) ["_law_box", "_law_s"] us) := match us, hl with | [_, _], _ => rfl

abbrev spSm : Sp := spOf (ι := Addr × SR) (fun g => some g.1) (fun g => [boxE g.1, sh qSR g.2]) (fun _ => True) (rL qI) (fun g z => RowC (mkS g.2) z)
theorem ok_sm (F : TF T CS CR aS) (c_law_draw : Cl T 1 "_law_draw" spDraw) (c_law_size : Cl T 1 "_law_size" spSz) (D : Dn T "_law_small" s_law_small) : Cl T 2 "_law_small" spSm := by
  refine cl_def D sc_law_small bd_law_small (fun _ => rfl) fun f cdv A outer s H E hr => ⟨_, (pss_one (ps_ret (pe_lc (own := [("_law_k", 2)]) rfl nd_law_small (piR (⟨rfl, rfl, rfl, rfl, rfl⟩ : At _ T) rfl F.range (pa_cons (pc c_law_size (⟨rfl, rfl, rfl, rfl, rfl⟩ : At _ T) hr (by decide) rfl (pa_cons (pv 1) pa_nil)) pa_nil)) (blkOk_by (own := [("_law_k", 2)]) (N := N_law_small) (sc := defScope s_law_small) (by decide +kernel)) (fun _ _ _ _ _ => (pg_name (i := 2) nd_law_small rfl (.inl rfl) (.inr rfl))) (fun _ _ _ _ _ => pts_nil) (fun _ _ _ _ _ => (pe_op op_add pe_int (pc c_law_draw (⟨rfl, rfl, rfl, rfl, rfl⟩ : At _ T) hr (by decide) rfl (pa_cons (pv 0) (pa_cons pe_int pa_nil)))))))), ?_⟩
  rintro ⟨b, s⟩ Fm D eb - hR -
  have eb : Fm.bx = some b := eb
  have hsz := size_range (mkS s)
  show Tr Fm [some (boxE b), some (sh qSR s), none] _ _
  refine tr_ret ((en_lc (r := qI) (b := fun _ => true) (q := fun (_ z : Int) => 1 ≤ z ∧ z ≤ 5) (ei_range (pi := (· = (mkS s).size)) (ev_szD (ev_var rfl)) (by rintro _ rfl; omega) tg_name) (by decide) ?_ (fun _ _ _ _ => et_yes) ?_).ev) hR ?_
  · rintro _ ⟨_, rfl, rfl⟩; rw [List.length_map, List.length_range]; omega
  · rintro _ ⟨_, rfl, rfl⟩ k _ _
    exact ev_i0 (pi := (· = 1)) (pj := fun z => 0 ≤ z ∧ z < 5) ev_int (ev_drawD eb rfl ev_int (by decide)) fun a z ha hz => by rw [ha]; omega
  · rintro z ⟨_, ⟨_, rfl, rfl⟩, h⟩
    rw [filter_true'] at h
    have := paired_len h
    rw [List.length_map, List.length_range] at this
    exact row_small this.symm (paired_all h)
end
end Rf
/-! WkQ: the law. -/
namespace Rf
open PySem PySem.Spec PyProof.Rows L2
section
variable {T : Tx} {CS CR aS : Addr} {β : Option Addr} {Γ : EnvA} {te ta : TE} {K : PySem.W.Frag} {α : Type} {r : RP α}
theorem ev_small {b : Addr} {i j : Nat} {s : SR} {E : XK} (hβ : β = some b) (h : Γ[i]? = some (some (boxE b))) (hs : Γ[j]? = some (some (sh qSR s))) : Ev β (tCall spSm [] E (tCons (tVar i) (tCons (tVar j) tNil))) Γ (rL qI) fun z => RowC (mkS s) z :=
  ev_callB (ea_box h (ea_cons (r := qSR) (p := (· = s)) (ev_var hs) fun s' hs' => ea_nil ⟨(b, s), hβ.symm, by rw [hs'], trivial, fun _ h => h⟩))
/-- THE RULE for a def, its function object known -/
theorem fn_def {T : Tx} {x : Str} {st : Stmt} {f : Addr} {fd : FuncData} {N ps : List Str} {k : Nat} {ι δ : Type} {bx : ι → Option Addr} {args : ι → List Ent} {pre : ι → Prop} {r : RP δ} {post : ι → δ → Prop} (G : FunD T.K x x (defArgs st) (defBody st) (defScope st) [] [] f fd) (Sc : FnScope N ps (defScope st))
    (len : ∀ g, (args g).length = ps.length)
    (body : ∀ (f : Addr) (cdv : Value) (A : Around) (outer : List Env) (s : Shared) (H : Hp) (E : XK), Room k (A.deeper (PyProof.Rows.envOfC x (defScope st) s.heap.objs.size f cdv)) →
      ∃ t, PSs (cxOf CX0 T.P T.w T.K T.mg T.base N x (defScope st) f cdv A outer s H E).nox (defBody st) t ∧
        ∀ (g : ι) (Fm : Fr) (D : Ends), Fm.bx = bx g → pre g → Rt Fm r (post g) D.rt → (∀ σ H', D.nx σ H' = D.rt .non H') → Tr Fm (startE N (args g)) t D) :
    FnOk T.P T.w T.K T.mg T.base CX0 (k + 1) f fd ps (spOf bx args pre r post) := by
  refine G.ok Sc (fun vs H Q E h => ?_) (fun cdv A outer s H vs Q E hr h => ?_)
  · obtain ⟨g, A, _, _, he, _⟩ := h
    have q : vs.length = (args g).length := Paired.length he
    rw [q, len]
  · obtain ⟨t, ht, q⟩ := body f cdv A outer s H E hr
    refine ⟨t, ht.nox, ?_⟩
    obtain ⟨g, A1, h1, h2, h3, h4, h5⟩ := h
    exact q g ⟨bx g, A1, H, A1⟩ _ rfl h4 (fun v x B H' g1 p1 r1 => h5 v x B H' g1 p1 r1) (fun _ _ => rfl) _ _ ⟨A1, Le.refl, Grow.refl h1, rel_start h1 h2 h3⟩
abbrev s_law : Stmt := topS 85
abbrev N_law : List Str := ["_law_script", "_law_box", "_law_turn", "_law_s", "_law_scheme_here", "_law_examples_here", "_law_first", "_law_second", "_law_told", "_law_found", "_law_rows", "_law_cost_here", "_law_costs", "_law_one", "_law_own"]
theorem sc_law : FnScope N_law ["_law_script"] (defScope s_law) := ⟨rfl, rfl, rfl, by decide +kernel, rfl, by decide +kernel, by decide +kernel⟩
theorem nd_law : N_law.Nodup := by decide +kernel
theorem bd_law (kV doc pm : Value) (an : Option Addr) (cdv ct : Value) (us : List Value) (hl : us.length = List.length (α := Str) ["_law_script"]) : bindArgs (PySem.W.fnOf "law" "law" (defArgs s_law) (defBody s_law) (defScope s_law) .none kV doc pm an cdv ct) ⟨us, []⟩ = pure (List.zip (α := Str) ["_law_script"] us) := match us, hl with | [_], _ => rfl

abbrev spLaw (K : PySem.W.Frag) : Sp := spOf (ι := List Int) (fun _ => none) (fun g => [sh (qSq K) g]) (fun _ => True) qB (fun _ z => z = true)
theorem ok_law (F : TF T CS CR aS) (c_law_row : Cl T 2 "_law_row" (spRow T.K)) (c_law_scheme : Cl T 2 "_law_scheme" spSch) (c_law_made : Cl T 4 "_law_made" (spMd CS)) (c_law_examples : Cl T 9 "_law_examples" spEx) (c_law_draw : Cl T 1 "_law_draw" spDraw) (c_law_word : Cl T 2 "_law_word" spWord) (c_law_foretold : Cl T 12 "_law_foretold" (spFt CS T.K)) (cexplanation : Cl T 11 "explanation" (spExpl CS)) (c_law_small : Cl T 2 "_law_small" spSm) (c_law_explains : Cl T 9 "_law_explains" spXp) (c_law_holds : Cl T 3 "_law_holds" (spHd T.K)) (c_law_best : Cl T 8 "_law_best" spBst) (c_law_plain : Cl T 1 "_law_plain" spPlain) {f : Addr} {fd : FuncData} (G : FunD T.K "law" "law" (defArgs s_law) (defBody s_law) (defScope s_law) [] [] f fd) : FnOk T.P T.w T.K T.mg T.base CX0 13 f fd ["_law_script"] (spLaw T.K) := by
  refine fn_def G sc_law (fun _ => rfl) fun f cdv A outer s H E hr => ⟨_, (pss_cons (ps_set (i := 1) nd_law rfl (Or.inl rfl) (pe_lst (pa_cons (pc c_law_row (⟨rfl, rfl, rfl, rfl, rfl⟩ : At _ T) hr (by decide) rfl (pa_cons (pv 0) (pa_cons pe_int (pa_cons pe_int pa_nil)))) (pa_cons pe_int pa_nil))))
      (pss_cons (ps_for PassesOwn.never rfl (piR (⟨rfl, rfl, rfl, rfl, rfl⟩ : At _ T) rfl F.range (pa_cons pe_int pa_nil)) (pg_name (i := 2) nd_law rfl (.inl rfl) (.inl rfl)) (pss_cons (ps_set (i := 3) nd_law rfl (Or.inl rfl) (pc c_law_scheme (⟨rfl, rfl, rfl, rfl, rfl⟩ : At _ T) hr (by decide) rfl (pa_cons (pv 1) pa_nil)))
      (pss_cons (ps_set (i := 4) nd_law rfl (Or.inl rfl) (pc c_law_made (⟨rfl, rfl, rfl, rfl, rfl⟩ : At _ T) hr (by decide) rfl (pa_cons (pv 3) pa_nil)))
      (pss_cons (ps_set (i := 5) nd_law rfl (Or.inl rfl) (pc c_law_examples (⟨rfl, rfl, rfl, rfl, rfl⟩ : At _ T) hr (by decide) rfl (pa_cons (pv 1) (pa_cons (pv 3) (pa_cons (pe_op op_add pe_int (pc c_law_draw (⟨rfl, rfl, rfl, rfl, rfl⟩ : At _ T) hr (by decide) rfl (pa_cons (pv 1) (pa_cons pe_int pa_nil)))) (pa_cons (pe_op op_add pe_int (pc c_law_draw (⟨rfl, rfl, rfl, rfl, rfl⟩ : At _ T) hr (by decide) rfl (pa_cons (pv 1) (pa_cons pe_int pa_nil)))) pa_nil))))))
      (pss_cons (ps_set (i := 6) nd_law rfl (Or.inl rfl) (pc c_law_word (⟨rfl, rfl, rfl, rfl, rfl⟩ : At _ T) hr (by decide) rfl (pa_cons (pv 1) (pa_cons pe_int pa_nil))))
      (pss_cons (ps_set (i := 7) nd_law rfl (Or.inl rfl) (pc c_law_word (⟨rfl, rfl, rfl, rfl, rfl⟩ : At _ T) hr (by decide) rfl (pa_cons (pv 1) (pa_cons pe_int pa_nil))))
      (pss_cons (ps_set (i := 8) nd_law rfl (Or.inl rfl) (pc c_law_foretold (⟨rfl, rfl, rfl, rfl, rfl⟩ : At _ T) hr (by decide) rfl (pa_cons (pv 4) (pa_cons (pv 5) (pa_cons (pv 6) (pa_cons (pv 7) pa_nil))))))
      (pss_cons (ps_set (i := 9) nd_law rfl (Or.inl rfl) (pc cexplanation (⟨rfl, rfl, rfl, rfl, rfl⟩ : At _ T) hr (by decide) rfl (pa_cons (pv 4) (pa_cons (pbT (⟨rfl, rfl, rfl, rfl, rfl⟩ : At _ T) (cList (⟨rfl, rfl, rfl, rfl, rfl⟩ : At _ T)) rfl F.list boot_list (pa_cons (pv 5) pa_nil)) pa_nil))))
      (pss_cons (ps_if (PW.pt (pw_and (pt_cmp (pc_isN (pv 9))) (pw_and1 (pt_cmpR (oNeD (⟨rfl, rfl, rfl, rfl, rfl⟩ : At _ T) hr) (pv 8) (pe_lst (pa_cons (pe_lst pa_nil) (pa_cons (pe_lst pa_nil) (pa_cons (pe_lst pa_nil) pa_nil)))) (nomark _))))) (pss_one (ps_ret pe_bl)) pss_nil)
      (pss_cons (ps_set (i := 10) nd_law rfl (Or.inl rfl) (pe_lst (pa_cons (pc c_law_small (⟨rfl, rfl, rfl, rfl, rfl⟩ : At _ T) hr (by decide) rfl (pa_cons (pv 1) (pa_cons (pv 3) pa_nil))) (pa_cons (pc c_law_small (⟨rfl, rfl, rfl, rfl, rfl⟩ : At _ T) hr (by decide) rfl (pa_cons (pv 1) (pa_cons (pv 3) pa_nil))) (pa_cons (pc c_law_small (⟨rfl, rfl, rfl, rfl, rfl⟩ : At _ T) hr (by decide) rfl (pa_cons (pv 1) (pa_cons (pv 3) pa_nil))) pa_nil)))))
      (Evl.pss_cut (ps_if (pt_cmp (pc_notN (pv 9))) (pss_one (ps_set (i := 10) nd_law rfl (Or.inl rfl) (pe_op op_cat (pv 10) (pe_lst (pa_cons (ixT (⟨rfl, rfl, rfl, rfl, rfl⟩ : At _ T) (pv 9) pe_int) (pa_cons (pe_lc (own := [("_law_cost_here", 11)]) rfl nd_law (piL (⟨rfl, rfl, rfl, rfl, rfl⟩ : At _ T) (ixT (⟨rfl, rfl, rfl, rfl, rfl⟩ : At _ T) (pv 9) pe_int)) (blkOk_by (own := [("_law_cost_here", 11)]) (N := N_law) (sc := defScope s_law) (by decide +kernel)) (fun _ _ _ _ _ => (pg_name (i := 11) nd_law rfl (.inl rfl) (.inr rfl))) (fun _ _ _ _ _ => pts_nil) (fun _ _ _ _ _ => (pe_op op_mulW pe_int (pv 11)))) pa_nil)))))) pss_nil)
      (pss_cons (ps_for PassesOwn.never rfl (piL (⟨rfl, rfl, rfl, rfl, rfl⟩ : At _ T) (pv 10)) (pg_name (i := 12) nd_law rfl (.inl rfl) (.inl rfl)) (pss_one (ps_if (pt_val (pc c_law_explains (⟨rfl, rfl, rfl, rfl, rfl⟩ : At _ T) hr (by decide) rfl (pa_cons (pv 3) (pa_cons (pv 5) (pa_cons (pv 12) pa_nil))))) (pss_one (ps_if (PW.pt (pw_or (pt_cmp (pc_isN (pv 9))) (pw_or1 (pt_not (pt_val (pc c_law_holds (⟨rfl, rfl, rfl, rfl, rfl⟩ : At _ T) hr (by decide) rfl (pa_cons (pv 3) (pa_cons (pv 8) (pa_cons (pc c_law_best (⟨rfl, rfl, rfl, rfl, rfl⟩ : At _ T) hr (by decide) rfl (pa_cons (pv 3) (pa_cons (pv 6) (pa_cons (pv 7) (pa_cons (pv 12) pa_nil))))) pa_nil))))))))) (pss_one (ps_ret pe_bl)) pss_nil)) pss_nil)))
      (pss_cons (ps_set (i := 13) nd_law rfl (Or.inl rfl) (ixL (⟨rfl, rfl, rfl, rfl, rfl⟩ : At _ T) (pv 5) pe_int))
      (pss_cons (ps_set (i := 14) nd_law rfl (Or.inl rfl) (pc c_law_foretold (⟨rfl, rfl, rfl, rfl, rfl⟩ : At _ T) hr (by decide) rfl (pa_cons (pv 4) (pa_cons (pv 5) (pa_cons (pc c_law_plain (⟨rfl, rfl, rfl, rfl, rfl⟩ : At _ T) hr (by decide) rfl (pa_cons (ixT (⟨rfl, rfl, rfl, rfl, rfl⟩ : At _ T) (pv 13) pe_int) pa_nil)) (pa_cons (pc c_law_plain (⟨rfl, rfl, rfl, rfl, rfl⟩ : At _ T) hr (by decide) rfl (pa_cons (ixT (⟨rfl, rfl, rfl, rfl, rfl⟩ : At _ T) (pv 13) pe_int) pa_nil)) pa_nil))))))
      (pss_one (ps_if (PW.pt (pw_and (pt_cmp (pc_notN (pv 9))) (pw_and1 (pt_not (pt_val (pc c_law_holds (⟨rfl, rfl, rfl, rfl, rfl⟩ : At _ T) hr (by decide) rfl (pa_cons (pv 3) (pa_cons (pv 14) (pa_cons (pe_lst (pa_cons (pv 13) pa_nil)) pa_nil))))))))) (pss_one (ps_ret pe_bl)) pss_nil))))))))))))))))
      (pss_one (ps_ret pe_bl)))), ?_⟩
  rintro xs Fm D eb - hR -
  have eb : Fm.bx = none := eb
  show Tr Fm [some (sh (qSq T.K) xs), none, none, none, none, none, none, none, none, none, none, none, none, none, none] _ _
  refine tr_newBox (i := 1) (Γ' := [some (sh (qSq T.K) xs), none, none, none, none, none, none, none, none, none, none, none, none, none, none]) (p := fun z => z.length ≤ 100000) (ev_call3D (ev_var rfl) ev_int ev_int xs rfl trivial fun _ h => h) (fun _ h => h) eb hR rfl ?_ ?_
  · intro j e hj
    refine ⟨hj, ?_, ?_⟩
    · rintro rfl
      cases (Option.some.inj hj)
    · match j, hj with
      | 0, hj =>
        cases (Option.some.inj (Option.some.inj hj))
        exact fun H v a z => z
      | j + 1, hj =>
        have hm := List.mem_of_getElem? (show ([none, none, none, none, none, none, none, none, none, none, none, none, none, none] : EnvA)[j]? = some (some e) from hj)
        simp at hm
  intro b F' eb' hR'
  show Tr F' [some (sh (qSq T.K) xs), some (boxE b), none, none, none, none, none, none, none, none, none, none, none, none, none] _ _
  refine tr_forS (S := Unit) (ei_range (pi := (· = 1)) ev_int (by rintro _ rfl; decide) tg_name) (fun _ _ _ => True) (fun _ => [some (sh (qSq T.K) xs), some (boxE b), none, none, none, none, none, none, none, none, none, none, none, none, none]) ?_ ?_ ?_
  · rintro us -
    exact ⟨(), trivial, (by repeat (first | exact lss_nil | apply lss_some | apply lss_none))⟩
  · rintro us - B i u - _ -
    show Tr _ [some (sh (qSq T.K) xs), some (boxE b), some (sh qI u), none, none, none, none, none, none, none, none, none, none, none, none] _ _
    refine tr_asg (r := qSR) (p := okS) (ev_callB (ea_box rfl (ea_nil ⟨b, eb'.symm, rfl, trivial, fun _ h => h⟩))) ?_
    intro s hs
    have hg4 := good_len hs.1
    refine tr_asgD (r := qSc CS) (x := mkS s) (ev_call1D (ev_var rfl) s rfl hs fun _ h => h) ?_
    show Tr _ [some (sh (qSq T.K) xs), some (boxE b), some (sh qI u), some (sh qSR s), some (sh (qSc CS) (mkS s)), none, none, none, none, none, none, none, none, none, none] _ _
    refine tr_asg (r := rL qAl) (p := fun z => (1 ≤ z.length ∧ z.length ≤ 2) ∧ ∀ e ∈ z, ExOk e) (ev_callB (ea_box rfl (ea_cons (r := qSR) (p := (· = s)) (ev_var rfl) fun s' hs' => ea_cons (r := qI) (p := fun z => 2 ≤ z ∧ z < 4) (ev_i0 (pi := (· = 2)) (pj := fun z => 0 ≤ z ∧ z < 2) ev_int (ev_drawD eb' rfl ev_int (by decide)) fun x y hx hy => by rw [hx]; omega) fun m hm => ea_cons (r := qI) (p := fun z => 1 ≤ z ∧ z < 3) (ev_i0 (pi := (· = 1)) (pj := fun z => 0 ≤ z ∧ z < 2) ev_int (ev_drawD eb' rfl ev_int (by decide)) fun x y hx hy => by rw [hx]; omega) fun n hn => ea_nil ⟨(b, s, m.toNat, n.toNat), eb'.symm, ?_, ⟨hg4, ?_, ?_⟩, fun z hz => ⟨?_, hz.2⟩⟩))) ?_
    · rw [hs']
      show _ = [boxE b, sh qSR s, sh qI ((m.toNat : Nat) : Int), sh qI ((n.toNat : Nat) : Int)]
      rw [Int.toNat_of_nonneg (by omega), Int.toNat_of_nonneg (by omega)]
    · show m.toNat ≤ 3; omega
    · show n.toNat ≤ 2; omega
    · have := hz.1
      have this : z.length = n.toNat := this
      omega
    rintro exs ⟨⟨hx1, hx2⟩, hex⟩
    have hokG : okG (mkS s) exs := okG_of hex hx2 hs
    show Tr _ [some (sh (qSq T.K) xs), some (boxE b), some (sh qI u), some (sh qSR s), some (sh (qSc CS) (mkS s)), some (sh (rL qAl) exs), none, none, none, none, none, none, none, none, none] _ _
    refine tr_asg (r := qW) (p := fun z => z.length ≤ 3 ∧ okA z) (ev_wordD (n := 3) eb' rfl ev_int (by decide)) ?_
    rintro x ⟨hx, ox⟩
    refine tr_asg (r := qW) (p := fun z => z.length ≤ 3 ∧ okA z) (ev_wordD (n := 3) eb' rfl ev_int (by decide)) ?_
    rintro y ⟨hy, oy⟩
    have hokX : okXY (mkS s, x, y) := ⟨hg4, hx, hy, ox.okW, oy.okW⟩
    show Tr _ [some (sh (qSq T.K) xs), some (boxE b), some (sh qI u), some (sh qSR s), some (sh (qSc CS) (mkS s)), some (sh (rL qAl) exs), some (sh qW x), some (sh qW y), none, none, none, none, none, none, none] _ _
    refine tr_asg (r := qTold T.K) (p := fun t => TellF (mkS s) exs x y t) (ev_call4D (ev_var rfl) (ev_var rfl) (ev_var rfl) (ev_var rfl) (mkS s, exs, x, y) rfl ⟨hokG, hokX⟩ fun _ h => h) ?_
    intro t htell
    refine tr_asg (r := qO qEx) (p := fun z => ExC (mkS s) exs (z.map (·.1))) (ev_call2D (ev_var rfl) (en_list (ev_var rfl)).ev (mkS s, exs) rfl hokG fun _ h => h) ?_
    intro fo hfo
    show Tr _ [some (sh (qSq T.K) xs), some (boxE b), some (sh qI u), some (sh qSR s), some (sh (qSc CS) (mkS s)), some (sh (rL qAl) exs), some (sh qW x), some (sh qW y), some (sh (qTold T.K) t), some (sh (qO qEx) fo), none, none, none, none, none] _ _
    refine tr_ifD (b := fo.isNone && !decide (t = ([], [], []))) (et_andD (et_B (ev_isN (p := (· = fo)) (ev_var rfl) (by rintro _ rfl; rfl))) fun _ => et_test (ev_neData (r := qTold T.K) (p1 := (· = t)) (p2 := (· = ([], [], []))) dat_tol (ev_var rfl) ((ev_l3 (p1 := (· = [])) (p2 := (· = [])) (p3 := (· = [])) (en_nil (r := rL qI)).ev (en_nil (r := qTI T.K)).ev (en_nil (r := qTI T.K)).ev).imp fun z h => Prod.ext h.1 (Prod.ext h.2.1 h.2.2)) (fun _ _ => ⟨fun _ _ => trivial, fun _ _ => trivial, fun _ _ => trivial⟩) (fun _ _ => ⟨fun _ _ => trivial, fun _ _ => trivial, fun _ _ => trivial⟩) (by rintro _ _ rfl rfl; exact congrArg not (decide_eq_decide.mpr Iff.rfl)))) (fun q => ?_) (fun q => tr_nil ?_)
    · exfalso
      rw [Bool.and_eq_true, Bool.not_eq_true', decide_eq_false_iff_not] at q
      have e : fo = none := Option.isNone_iff_eq_none.mp q.1
      rw [e] at hfo
      exact q.2 (tell_none htell (hfo.no rfl))
    refine tr_asg (r := rL (rL qI)) (p := fun l => (∀ c ∈ l, RowC (mkS s) c) ∧ l.length ≤ 3) ((en_lst3 (ev_small eb' rfl rfl) (ev_small eb' rfl rfl) (ev_small eb' rfl rfl)).ev.imp ?_) ?_
    · rintro _ ⟨c1, c2, c3, h1, h2, h3, rfl⟩
      refine ⟨fun c hc => ?_, Nat.le_refl 3⟩
      simp at hc
      rcases hc with rfl | rfl | rfl <;> assumption
    rintro rows0 ⟨hr0, hl0⟩
    refine tr_cutS (S := List (List Int)) (fun l => (∀ c ∈ l, RowC (mkS s) c) ∧ l.length ≤ 5) (fun l => [some (sh (qSq T.K) xs), some (boxE b), none, some (sh qSR s), some (sh (qSc CS) (mkS s)), some (sh (rL qAl) exs), some (sh qW x), some (sh qW y), some (sh (qTold T.K) t), some (sh (qO qEx) fo), some (sh (rL (rL qI)) l), none, none, none, none]) ?_ ?_
    · refine tr_last (tr_ifD (b := fo.isSome) (et_B (ev_notN (p := (· = fo)) (ev_var rfl) (by rintro _ rfl; rfl))) (fun q => ?_) (fun q => tr_nil ?_))
      · obtain ⟨⟨c, tb⟩, rfl⟩ := Option.isSome_iff_exists.mp q
        obtain ⟨hc, hcs⟩ := hfo.yes c rfl
        have hsz := size_range (mkS s)
        have hcl := hc.1
        have e0 : ∀ {Γ : EnvA}, Γ[9]? = some (some (sh (qO qEx) (some (c, tb)))) → Ev (F'.at B).bx (tOp (rIxT T.K) (tVar 9) (tC (.int 0))) Γ (rL qI) (· = c) := fun {Γ} h => ev_ixP1 (r1 := rL qI) (r2 := rL qTab) (p := (· = (c, tb))) (ev_the (p := (· = some (c, tb))) (ev_var h) (by rintro _ rfl; exact ⟨_, rfl, rfl⟩)) (by rintro _ rfl; rfl)
        refine tr_asg (r := rL (rL qI)) (p := (· = rows0 ++ [c, c.map fun v => 3 * v])) ((en_cat (r := rL qI) (p := (· = rows0)) (p2 := (· = [c, c.map fun v => 3 * v])) (ev_var rfl) (fun _ _ => (en_lst2 (r := rL qI) (p := (· = c)) (p2 := (· = c.map fun v => 3 * v)) (e0 rfl) ((en_lc (r := qI) (b := fun _ => true) (q := fun (v z : Int) => z = 3 * v) (ei_list (p := (· = c)) (e0 rfl) tg_name) (by decide) ?_ (fun _ _ _ _ => et_yes) ?_).ev.imp ?_)).ev.imp ?_) ?_).ev.imp ?_) ?_
        · rintro _ rfl; omega
        · rintro _ rfl v hv _
          exact ev_iiD ev_int (ev_var rfl) (wide_mul (a := 2) (b := 200) (by decide) (hcs v hv) (by decide) (by decide) (by decide))
        · rintro z ⟨_, rfl, h⟩
          rw [filter_true'] at h
          exact paired_eq (f := fun v : Int => 3 * v) h
        · rintro _ ⟨u1, u2, e1, e2, e3⟩; rw [e3, e1, e2]
        · rintro _ _ rfl rfl
          show _ + 2 ≤ _
          omega
        · rintro _ ⟨u1, u2, e1, e2, e3⟩; rw [e3, e1, e2]
        · rintro _ rfl
          refine tr_nx rfl (rows0 ++ [c, c.map fun v => 3 * v]) ⟨fun c' hc' => ?_, by rw [List.length_append]; show _ + 2 ≤ _; omega⟩ (by repeat (first | exact lss_nil | apply lss_some | apply lss_none))
          rcases List.mem_append.mp hc' with h | h
          · exact hr0 c' h
          · rcases List.mem_cons.mp h with rfl | h
            · exact row_found hc hcs
            · rw [List.mem_singleton.mp h]
              exact row_three hc hcs
      · exact tr_nx rfl rows0 ⟨hr0, by omega⟩ (by repeat (first | exact lss_nil | apply lss_some | apply lss_none))
    rintro rows ⟨hr1, hl1⟩
    refine tr_forS (S := Unit) (ei_list (p := (· = rows)) (ev_var rfl) tg_name) (fun _ _ _ => True) (fun _ => [some (sh (qSq T.K) xs), some (boxE b), none, some (sh qSR s), some (sh (qSc CS) (mkS s)), some (sh (rL qAl) exs), some (sh qW x), some (sh qW y), some (sh (qTold T.K) t), some (sh (qO qEx) fo), some (sh (rL (rL qI)) rows), none, none, none, none]) ?_ ?_ ?_
    · rintro cs -
      exact ⟨(), trivial, (by repeat (first | exact lss_nil | apply lss_some | apply lss_none))⟩
    · rintro cs hcs B2 k c hc _ -
      rw [hcs] at hc
      have rc := hr1 c (List.mem_of_getElem? hc)
      have hok : PrOk s x y c := ⟨hg4, hx, hy, ox, oy, rc.len⟩
      show Tr _ [some (sh (qSq T.K) xs), some (boxE b), none, some (sh qSR s), some (sh (qSc CS) (mkS s)), some (sh (rL qAl) exs), some (sh qW x), some (sh qW y), some (sh (qTold T.K) t), some (sh (qO qEx) fo), some (sh (rL (rL qI)) rows), none, some (sh (rL qI) c), none, none] _ _
      refine tr_last (tr_if (q := fun z => z = true → ∀ e ∈ exs, e ∈ bestL (mkS s) (bareF e.1) (bareF e.2) c) (et_B (ev_call3D (ev_var rfl) (ev_var rfl) (ev_var rfl) (s, exs, c) rfl ⟨hg4, hex, rc.len⟩ fun _ h => h)) (fun q => ?_) (fun _ => tr_nil (tr_nx rfl () trivial (by repeat (first | exact lss_nil | apply lss_some | apply lss_none)))))
      have hcone : InCone (mkS s) exs c := cone_of rc.len rc.pos (q rfl)
      have hsome : fo.isNone = false := by
        cases fo with
        | none => exact (hfo.no rfl c hcone).elim
        | some _ => rfl
      refine tr_ifD (b := false) (et_or (pb := (· = fo.isNone)) (et_B (ev_isN (p := (· = fo)) (ev_var rfl) (by rintro _ rfl; rfl))) (fun z => by rw [hsome] at z; cases z) fun _ => et_not (pb := (· = true)) (et_B (ev_call3D (x3 := bestL (mkS s) x y c) (ev_var rfl) (ev_var rfl) (ev_call4D (ev_var rfl) (ev_var rfl) (ev_var rfl) (ev_var rfl) (s, x, y, c) rfl hok fun _ h => h) (s, t, bestL (mkS s) x y c) rfl ⟨hg4, ?_, best_al hok⟩ fun z h => h fun al hal => hold_of htell (mem_best.mp hal).1 (fits_best hcone hal))) (by rintro _ rfl; rfl)) (fun z => by cases z) (fun _ => tr_nil (tr_nx rfl () trivial (by repeat (first | exact lss_nil | apply lss_some | apply lss_none))))
      have := htell.b.len
      show t.2.1.length ≤ 1000
      omega
    · rintro cs hcs _ -
      obtain ⟨e0, rest, hexs⟩ : ∃ a l, exs = a :: l := by
        cases exs with
        | nil => simp at hx1
        | cons a l => exact ⟨a, l, rfl⟩
      have he0 : e0 ∈ exs := by rw [hexs]; exact List.mem_cons_self
      have hE := hex e0 he0
      have ao := hE.alOk
      have ao1 := ao.le
      have ao2 := ao.eq
      refine tr_asgD (r := qAl) (x := e0) (ev_ixL (p := (· = exs)) (pi := (· = 0)) (ev_var rfl) (fun _ _ => ev_int) (by rintro _ _ rfl rfl; exact ⟨e0, by decide, by rw [hexs]; rfl, rfl⟩)) ?_
      have hokE : okXY (mkS s, bareF e0.1, bareF e0.2) := ⟨hg4, hE.l1, hE.l2, hE.a1.okW, hE.a2.okW⟩
      refine tr_asg (r := qTold T.K) (p := fun t => TellF (mkS s) exs (bareF e0.1) (bareF e0.2) t) (ev_call4D (x3 := bareF e0.1) (x4 := bareF e0.2) (ev_var rfl) (ev_var rfl) (ev_call1D (ev_row1 (ev_var rfl)) e0.1 rfl (show e0.1.length ≤ 1000 by omega) fun _ h => h) (ev_call1D (ev_row2 (ev_var rfl)) e0.2 rfl (show e0.2.length ≤ 1000 by omega) fun _ h => h) (mkS s, exs, bareF e0.1, bareF e0.2) rfl ⟨hokG, hokE⟩ fun _ h => h) ?_
      intro t2 htell2
      refine tr_last (tr_ifD (b := false) (et_and (pb := (· = fo.isSome)) (et_B (ev_notN (p := (· = fo)) (ev_var rfl) (by rintro _ rfl; rfl))) (fun _ => rfl) fun q => et_not (pb := (· = true)) (et_B (ev_call3D (x3 := [e0]) (ev_var rfl) (ev_var rfl) ((en_lst1 (p := (· = e0)) (ev_var rfl)).ev.imp (by rintro _ ⟨_, rfl, rfl⟩; rfl)) (s, t2, [e0]) rfl ⟨hg4, ?_, ?_⟩ fun z h => h fun al hal => ?_)) (by rintro _ rfl; rfl)) (fun z => by cases z) (fun _ => tr_nil (tr_nx rfl () trivial (by repeat (first | exact lss_nil | apply lss_some | apply lss_none)))))
      · have := htell2.b.len
        show t2.2.1.length ≤ 1000
        omega
      · intro al hal
        rw [List.mem_singleton.mp hal]; exact ao
      · rw [List.mem_singleton.mp hal]
        obtain ⟨⟨c, tb⟩, rfl⟩ := Option.isSome_iff_exists.mp q.symm
        obtain ⟨hc, _⟩ := hfo.yes c rfl
        exact hold_of htell2 hE.al (fits_best hc (own_best hc he0 hE.al))
  · rintro us - _ -
    exact tr_retD ev_bl hR' rfl
end
end Rf
set_option maxHeartbeats 0
/-! Hd: the head: the facts of the top by names, its run. -/
namespace Rf
open PySem PySem.Spec PyProof.Rows L2
def gcdB (K : PySem.W.Frag) : Bool := match PySem.W.nsIn K mainGlobals "gcd" with
  | some (some (.builtin id)) => decide (id = "math.gcd")
  | _ => false
def exB (K : PySem.W.Frag) : Bool := gcdB K && He.tupB K "START" [.int 0, .int 0, .int 0]
abbrev AlR : Type := He.AlD × Bool
def obsR (n : Nat) (fa : List He.Fa) (fn : List He.DefD) (g : Addr → Option Obj) : AlR := (He.obsD fa fn (He.frG g (He.asD g n)), exB (He.frG g (He.asD g n)))
def hookR (n : Nat) (fa : List He.Fa) (fn : List He.DefD) : PySem.W.Hook where
  α := AlR
  obs := fun s => obsR n fa fn s.heap.get?
  val := fun _ => (He.valD fn, true)
  says := fun _ h => ∃ K : PySem.W.Frag, K.In h ∧ He.SaysD fa fn K ∧ exB K = true
  of := fun _ _ e => ⟨_, He.frG_in, congrArg (fun z : AlR => z.1) e, congrArg (fun z : AlR => z.2) e⟩
  keeps := fun _ _ _ ⟨K, hK, c⟩ k => ⟨K, PySem.W.Frag.In.keeps hK k, c⟩
def dTop (x : Str) (st : Stmt) : He.DefD := ⟨(x, none), x, x, defArgs st, defBody st, defScope st, [], []⟩

def fn1 : List He.DefD := [dTop "_bare" s_bare,
  dTop "sequences_of" s_sequences_of,
  dTop "kinds_of" s_kinds_of,
  dTop "_are_groups" s_are_groups,
  ⟨("Scheme", some "__init__"), "__init__", "Scheme.__init__", defArgs s_Scheme___init__, defBody s_Scheme___init__, defScope s_Scheme___init__, [], []⟩,
  dTop "size" s_size,
  dTop "_are_near" s_are_near,
  dTop "added" s_added,
  dTop "plus" s_plus,
  dTop "minus" s_minus,
  dTop "product" s_product,
  dTop "counts_of" s_counts_of,
  dTop "nodes" s_nodes,
  dTop "is_end" s_is_end,
  dTop "moves" s_moves,
  dTop "_with" s_with,
  dTop "_without" s_without,
  dTop "ways_to_go" s_ways_to_go,
  dTop "ways_from" s_ways_from,
  dTop "possible_counts" s_possible_counts,
  dTop "_is_below" s_is_below,
  dTop "minimal_counts" s_minimal_counts,
  dTop "count_with" s_count_with,
  dTop "matches_with" s_matches_with,
  dTop "reduced" s_reduced,
  ⟨("Ray", some "__init__"), "__init__", "Ray.__init__", defArgs s_Ray___init__, defBody s_Ray___init__, defScope s_Ray___init__, [], []⟩,
  dTop "_first_rays" s_first_rays,
  dTop "_common" s_common,
  dTop "_are_neighbours" s_are_neighbours,
  dTop "_between" s_between]
def fn2 : List He.DefD := [dTop "_cut" s_cut,
  dTop "rays_of" s_rays_of,
  dTop "limits_of_counts" s_limits_of_counts,
  dTop "limits_of_examples" s_limits_of_examples,
  dTop "rays_of_examples" s_rays_of_examples,
  dTop "inner_costs" s_inner_costs,
  dTop "best_for_some" s_best_for_some,
  dTop "_matches" s_matches,
  dTop "certain_for_all" s_certain_for_all,
  dTop "possible_for_some" s_possible_for_some,
  dTop "_joined" s_joined,
  dTop "come_from" s_come_from,
  dTop "table_of" s_table_of,
  dTop "explaining_costs" s_explaining_costs,
  dTop "explanation" s_explanation,
  dTop "_law_cell" s_law_cell,
  dTop "_law_row" s_law_row,
  dTop "_law_draw" s_law_draw,
  dTop "_law_word" s_law_word,
  dTop "_law_all" s_law_all,
  dTop "_law_plain" s_law_plain,
  dTop "_law_scheme" s_law_scheme,
  dTop "_law_size" s_law_size,
  dTop "_law_is_near" s_law_is_near,
  dTop "_law_counts" s_law_counts,
  dTop "_law_cost" s_law_cost,
  dTop "_law_made" s_law_made,
  dTop "_law_likely" s_law_likely,
  dTop "_law_examples" s_law_examples,
  dTop "_law_matches" s_law_matches,
  dTop "_law_best" s_law_best,
  dTop "_law_explains" s_law_explains,
  dTop "_law_holds" s_law_holds,
  dTop "_law_foretold" s_law_foretold,
  dTop "_law_small" s_law_small,
  dTop "law" s_law]
def fn : List He.DefD := fn1 ++ fn2
def fa1 : List He.Fa := [.free "len", .free "int", .free "abs", .free "sum", .free "min", .free "any", .free "all", .free "list", .free "str", .free "bool", .free "tuple", .free "sorted", .free "isinstance", .free "range", .free "zip", .free "enumerate", .int "MATCH" 0, .int "DELETION" 1, .int "INSERTION" 2, .int "MOST_GROUPS" 4, .str "LETTERS" "abcdefghijklmnopqrstuvwxyz", .glo "START", .glo "Scheme", .cls "Scheme", .noat "Scheme" "groups", .noat "Scheme" "gaps", .noat "Scheme" "sides", .mkr "Scheme", .glo "Ray", .cls "Ray", .noat "Ray" "told", .noat "Ray" "tight", .mkr "Ray"]
def fa2 : List He.Fa := [.glo "_bare", .glo "sequences_of", .glo "kinds_of", .glo "_are_groups", .glo "size", .glo "_are_near", .glo "added", .glo "plus", .glo "minus", .glo "product", .glo "counts_of", .glo "nodes", .glo "is_end", .glo "moves", .glo "_with", .glo "_without", .glo "ways_to_go", .glo "ways_from", .glo "possible_counts", .glo "_is_below", .glo "minimal_counts", .glo "count_with", .glo "matches_with", .glo "reduced", .glo "_first_rays", .glo "_common", .glo "_are_neighbours", .glo "_between", .glo "_cut", .glo "rays_of"]
def fa3 : List He.Fa := [.glo "limits_of_counts", .glo "limits_of_examples", .glo "rays_of_examples", .glo "inner_costs", .glo "best_for_some", .glo "_matches", .glo "certain_for_all", .glo "possible_for_some", .glo "_joined", .glo "come_from", .glo "table_of", .glo "explaining_costs", .glo "explanation", .glo "_law_cell", .glo "_law_row", .glo "_law_draw", .glo "_law_word", .glo "_law_all", .glo "_law_plain", .glo "_law_scheme", .glo "_law_size", .glo "_law_is_near", .glo "_law_counts", .glo "_law_cost", .glo "_law_made", .glo "_law_likely", .glo "_law_examples", .glo "_law_matches", .glo "_law_best", .glo "_law_explains", .glo "_law_holds", .glo "_law_foretold", .glo "_law_small", .glo "law"]
def fa : List He.Fa := fa1 ++ (fa2 ++ fa3)
def lo1 : List PySem.Str := [("RightfaresError" : PySem.Str), ("LETTERS" : PySem.Str), ("MATCH" : PySem.Str), ("DELETION" : PySem.Str), ("INSERTION" : PySem.Str), ("_bare" : PySem.Str), ("sequences_of" : PySem.Str), ("kinds_of" : PySem.Str), ("MOST_GROUPS" : PySem.Str), ("_are_groups" : PySem.Str), ("Scheme" : PySem.Str), ("size" : PySem.Str), ("_are_near" : PySem.Str), ("added" : PySem.Str), ("plus" : PySem.Str), ("minus" : PySem.Str), ("product" : PySem.Str), ("counts_of" : PySem.Str), ("START" : PySem.Str), ("nodes" : PySem.Str), ("is_end" : PySem.Str), ("moves" : PySem.Str), ("_with" : PySem.Str), ("_without" : PySem.Str), ("ways_to_go" : PySem.Str), ("ways_from" : PySem.Str), ("possible_counts" : PySem.Str), ("_is_below" : PySem.Str), ("minimal_counts" : PySem.Str), ("count_with" : PySem.Str), ("matches_with" : PySem.Str), ("reduced" : PySem.Str), ("Ray" : PySem.Str), ("_first_rays" : PySem.Str), ("_common" : PySem.Str)]
def lo2 : List PySem.Str := [("_are_neighbours" : PySem.Str), ("_between" : PySem.Str), ("_cut" : PySem.Str), ("rays_of" : PySem.Str), ("limits_of_counts" : PySem.Str), ("limits_of_examples" : PySem.Str), ("rays_of_examples" : PySem.Str), ("inner_costs" : PySem.Str), ("best_for_some" : PySem.Str), ("_matches" : PySem.Str), ("certain_for_all" : PySem.Str), ("possible_for_some" : PySem.Str), ("_joined" : PySem.Str), ("come_from" : PySem.Str), ("table_of" : PySem.Str), ("explaining_costs" : PySem.Str), ("explanation" : PySem.Str), ("_law_cell" : PySem.Str), ("_law_row" : PySem.Str), ("_law_draw" : PySem.Str), ("_law_word" : PySem.Str), ("_law_all" : PySem.Str), ("_law_plain" : PySem.Str), ("_law_scheme" : PySem.Str), ("_law_size" : PySem.Str), ("_law_is_near" : PySem.Str), ("_law_counts" : PySem.Str), ("_law_cost" : PySem.Str), ("_law_made" : PySem.Str), ("_law_likely" : PySem.Str), ("_law_examples" : PySem.Str), ("_law_matches" : PySem.Str), ("_law_best" : PySem.Str), ("_law_explains" : PySem.Str), ("_law_holds" : PySem.Str), ("_law_foretold" : PySem.Str), ("_law_small" : PySem.Str)]
def lo : List PySem.Str := lo1 ++ lo2
abbrev lawIx : Nat := 85
abbrev R : PySem.W.OpenRow := PySem.W.OpenLaw.row PySem.Challenge.rw_rightfares_k28_whole_foretold_holds
abbrev hk : PySem.W.Hook := hookR 5 fa fn
def ob (s : PySem.W.SharedT) : AlR := obsR 5 fa fn (HandSHeadRun.getT s)
theorem ob_eq (s : PySem.W.SharedT) : ob s = hk.obs s.abs := by
  have e : HandSHeadRun.getT s = s.abs.heap.get? := funext (HandSHeadRun.getT_eq s)
  unfold ob
  rw [e]
  rfl
theorem run (w : World) : HandSHeadRun.RunEqI R (PySem.W.view R.prog [0, lawIx]) hk ob 8000 lo w := by
  unfold HandSHeadRun.RunEqI
  kernel_rfl
theorem gcdB_ok {K : PySem.W.Frag} {h : Heap} {mg : Str → Option Value} (X : K.In h) (G : h.Ns mainGlobals mg) (c : gcdB K = true) : mg "gcd" = some (.builtin "math.gcd") := by
  unfold gcdB at c
  cases e : PySem.W.nsIn K mainGlobals "gcd" with
  | none =>
    rw [e] at c
    cases c
  | some o =>
    rw [e] at c
    cases o with
    | none => cases c
    | some v =>
      cases v with
      | builtin id =>
        have ei : id = "math.gcd" := of_decide_eq_true c
        rw [ei] at e
        exact PySem.W.mg_of X G e
      | _ => cases c
theorem dn_of {T : Tx} {h : Heap} (KX : T.K.In h) (G : h.Ns mainGlobals T.mg) (c : He.SaysD fa fn T.K) {x : Str} {st : Stmt} {i j : Nat} (hi : fn[i]? = some (dTop x st)) (hj : fa[j]? = some (.glo x)) : Dn T x st := by
  obtain ⟨fd, FD⟩ := c.def_ i hi
  exact ⟨He.ga T.K x, fd, FD, He.glo_ok KX G (c.fact j hj)⟩
theorem facts2 {P : Program} {w : World} {K : PySem.W.Frag} {base h : Heap} {mg : Str → Option Value} {fd : FuncData} (KX : K.In h) (G : h.Ns mainGlobals mg) (c : He.SaysD fa fn K) (cg : gcdB K = true) (ct : He.tupB K "START" [.int 0, .int 0, .int 0] = true) {f : Addr} (FD : FunD K "law" "law" (defArgs s_law) (defBody s_law) (defScope s_law) [] [] f fd) :
    FnOk P w K mg base CX0 13 f fd ["_law_script"] (spLaw K) := by
  let T : Tx := ⟨P, w, K, mg, base⟩
  have KX : T.K.In h := KX
  have G : h.Ns mainGlobals T.mg := G
  have c : He.SaysD fa fn T.K := c
  have F : TF T (He.ga K "Scheme") (He.ga K "Ray") (He.ga K "START") := {
    len := He.free_ok KX G (x := "len") (c.fact 0 rfl)
    int := He.free_ok KX G (x := "int") (c.fact 1 rfl)
    abs := He.free_ok KX G (x := "abs") (c.fact 2 rfl)
    sum := He.free_ok KX G (x := "sum") (c.fact 3 rfl)
    min := He.free_ok KX G (x := "min") (c.fact 4 rfl)
    any := He.free_ok KX G (x := "any") (c.fact 5 rfl)
    all := He.free_ok KX G (x := "all") (c.fact 6 rfl)
    list := He.free_ok KX G (x := "list") (c.fact 7 rfl)
    str := He.free_ok KX G (x := "str") (c.fact 8 rfl)
    bool := He.free_ok KX G (x := "bool") (c.fact 9 rfl)
    tuple := He.free_ok KX G (x := "tuple") (c.fact 10 rfl)
    sorted := He.free_ok KX G (x := "sorted") (c.fact 11 rfl)
    isinstance := He.free_ok KX G (x := "isinstance") (c.fact 12 rfl)
    range := He.free_ok KX G (x := "range") (c.fact 13 rfl)
    zip := He.free_ok KX G (x := "zip") (c.fact 14 rfl)
    enumerate := He.free_ok KX G (x := "enumerate") (c.fact 15 rfl)
    gcd := gcdB_ok KX G cg
    gMATCH := let ⟨t, e⟩ := He.int_ok KX G (x := "MATCH") (i := 0) (c.fact 16 rfl); ⟨_, e, ⟨t, rfl⟩⟩
    gDELETION := let ⟨t, e⟩ := He.int_ok KX G (x := "DELETION") (i := 1) (c.fact 17 rfl); ⟨_, e, ⟨t, rfl⟩⟩
    gINSERTION := let ⟨t, e⟩ := He.int_ok KX G (x := "INSERTION") (i := 2) (c.fact 18 rfl); ⟨_, e, ⟨t, rfl⟩⟩
    gMOST_GROUPS := let ⟨t, e⟩ := He.int_ok KX G (x := "MOST_GROUPS") (i := 4) (c.fact 19 rfl); ⟨_, e, ⟨t, rfl⟩⟩
    gLETTERS := let ⟨t, e⟩ := He.str_ok KX G (x := "LETTERS") (z := "abcdefghijklmnopqrstuvwxyz") (c.fact 20 rfl); ⟨_, e, ⟨t, rfl⟩⟩
    gSTART := ⟨_, He.glo_ok KX G (x := "START") (c.fact 21 rfl), rfl⟩
    startT := He.tupB_ok ct
    clS := He.cls_ok (x := "Scheme") (c.fact 23 rfl)
    naS1 := He.noat_ok (x := "Scheme") (f := "groups") (c.fact 24 rfl)
    naS2 := He.noat_ok (x := "Scheme") (f := "gaps") (c.fact 25 rfl)
    naS3 := He.noat_ok (x := "Scheme") (f := "sides") (c.fact 26 rfl)
    clR := He.cls_ok (x := "Ray") (c.fact 29 rfl)
    naR1 := He.noat_ok (x := "Ray") (f := "told") (c.fact 30 rfl)
    naR2 := He.noat_ok (x := "Ray") (f := "tight") (c.fact 31 rfl) }
  have D_bare : Dn T "_bare" s_bare := dn_of KX G c (i := 0) (j := 33) rfl rfl
  have D_sequences_of : Dn T "sequences_of" s_sequences_of := dn_of KX G c (i := 1) (j := 34) rfl rfl
  have D_kinds_of : Dn T "kinds_of" s_kinds_of := dn_of KX G c (i := 2) (j := 35) rfl rfl
  have D_are_groups : Dn T "_are_groups" s_are_groups := dn_of KX G c (i := 3) (j := 36) rfl rfl
  have D_size : Dn T "size" s_size := dn_of KX G c (i := 5) (j := 37) rfl rfl
  have D_are_near : Dn T "_are_near" s_are_near := dn_of KX G c (i := 6) (j := 38) rfl rfl
  have D_added : Dn T "added" s_added := dn_of KX G c (i := 7) (j := 39) rfl rfl
  have D_plus : Dn T "plus" s_plus := dn_of KX G c (i := 8) (j := 40) rfl rfl
  have D_minus : Dn T "minus" s_minus := dn_of KX G c (i := 9) (j := 41) rfl rfl
  have D_product : Dn T "product" s_product := dn_of KX G c (i := 10) (j := 42) rfl rfl
  have D_counts_of : Dn T "counts_of" s_counts_of := dn_of KX G c (i := 11) (j := 43) rfl rfl
  have D_nodes : Dn T "nodes" s_nodes := dn_of KX G c (i := 12) (j := 44) rfl rfl
  have D_is_end : Dn T "is_end" s_is_end := dn_of KX G c (i := 13) (j := 45) rfl rfl
  have D_moves : Dn T "moves" s_moves := dn_of KX G c (i := 14) (j := 46) rfl rfl
  have D_with : Dn T "_with" s_with := dn_of KX G c (i := 15) (j := 47) rfl rfl
  have D_without : Dn T "_without" s_without := dn_of KX G c (i := 16) (j := 48) rfl rfl
  have D_ways_to_go : Dn T "ways_to_go" s_ways_to_go := dn_of KX G c (i := 17) (j := 49) rfl rfl
  have D_ways_from : Dn T "ways_from" s_ways_from := dn_of KX G c (i := 18) (j := 50) rfl rfl
  have D_possible_counts : Dn T "possible_counts" s_possible_counts := dn_of KX G c (i := 19) (j := 51) rfl rfl
  have D_is_below : Dn T "_is_below" s_is_below := dn_of KX G c (i := 20) (j := 52) rfl rfl
  have D_minimal_counts : Dn T "minimal_counts" s_minimal_counts := dn_of KX G c (i := 21) (j := 53) rfl rfl
  have D_count_with : Dn T "count_with" s_count_with := dn_of KX G c (i := 22) (j := 54) rfl rfl
  have D_matches_with : Dn T "matches_with" s_matches_with := dn_of KX G c (i := 23) (j := 55) rfl rfl
  have D_reduced : Dn T "reduced" s_reduced := dn_of KX G c (i := 24) (j := 56) rfl rfl
  have D_first_rays : Dn T "_first_rays" s_first_rays := dn_of KX G c (i := 26) (j := 57) rfl rfl
  have D_common : Dn T "_common" s_common := dn_of KX G c (i := 27) (j := 58) rfl rfl
  have D_are_neighbours : Dn T "_are_neighbours" s_are_neighbours := dn_of KX G c (i := 28) (j := 59) rfl rfl
  have D_between : Dn T "_between" s_between := dn_of KX G c (i := 29) (j := 60) rfl rfl
  have D_cut : Dn T "_cut" s_cut := dn_of KX G c (i := 30) (j := 61) rfl rfl
  have D_rays_of : Dn T "rays_of" s_rays_of := dn_of KX G c (i := 31) (j := 62) rfl rfl
  have D_limits_of_counts : Dn T "limits_of_counts" s_limits_of_counts := dn_of KX G c (i := 32) (j := 63) rfl rfl
  have D_limits_of_examples : Dn T "limits_of_examples" s_limits_of_examples := dn_of KX G c (i := 33) (j := 64) rfl rfl
  have D_rays_of_examples : Dn T "rays_of_examples" s_rays_of_examples := dn_of KX G c (i := 34) (j := 65) rfl rfl
  have D_inner_costs : Dn T "inner_costs" s_inner_costs := dn_of KX G c (i := 35) (j := 66) rfl rfl
  have D_best_for_some : Dn T "best_for_some" s_best_for_some := dn_of KX G c (i := 36) (j := 67) rfl rfl
  have D_matches : Dn T "_matches" s_matches := dn_of KX G c (i := 37) (j := 68) rfl rfl
  have D_certain_for_all : Dn T "certain_for_all" s_certain_for_all := dn_of KX G c (i := 38) (j := 69) rfl rfl
  have D_possible_for_some : Dn T "possible_for_some" s_possible_for_some := dn_of KX G c (i := 39) (j := 70) rfl rfl
  have D_joined : Dn T "_joined" s_joined := dn_of KX G c (i := 40) (j := 71) rfl rfl
  have D_come_from : Dn T "come_from" s_come_from := dn_of KX G c (i := 41) (j := 72) rfl rfl
  have D_table_of : Dn T "table_of" s_table_of := dn_of KX G c (i := 42) (j := 73) rfl rfl
  have D_explaining_costs : Dn T "explaining_costs" s_explaining_costs := dn_of KX G c (i := 43) (j := 74) rfl rfl
  have D_explanation : Dn T "explanation" s_explanation := dn_of KX G c (i := 44) (j := 75) rfl rfl
  have D_law_cell : Dn T "_law_cell" s_law_cell := dn_of KX G c (i := 45) (j := 76) rfl rfl
  have D_law_row : Dn T "_law_row" s_law_row := dn_of KX G c (i := 46) (j := 77) rfl rfl
  have D_law_draw : Dn T "_law_draw" s_law_draw := dn_of KX G c (i := 47) (j := 78) rfl rfl
  have D_law_word : Dn T "_law_word" s_law_word := dn_of KX G c (i := 48) (j := 79) rfl rfl
  have D_law_all : Dn T "_law_all" s_law_all := dn_of KX G c (i := 49) (j := 80) rfl rfl
  have D_law_plain : Dn T "_law_plain" s_law_plain := dn_of KX G c (i := 50) (j := 81) rfl rfl
  have D_law_scheme : Dn T "_law_scheme" s_law_scheme := dn_of KX G c (i := 51) (j := 82) rfl rfl
  have D_law_size : Dn T "_law_size" s_law_size := dn_of KX G c (i := 52) (j := 83) rfl rfl
  have D_law_is_near : Dn T "_law_is_near" s_law_is_near := dn_of KX G c (i := 53) (j := 84) rfl rfl
  have D_law_counts : Dn T "_law_counts" s_law_counts := dn_of KX G c (i := 54) (j := 85) rfl rfl
  have D_law_cost : Dn T "_law_cost" s_law_cost := dn_of KX G c (i := 55) (j := 86) rfl rfl
  have D_law_made : Dn T "_law_made" s_law_made := dn_of KX G c (i := 56) (j := 87) rfl rfl
  have D_law_likely : Dn T "_law_likely" s_law_likely := dn_of KX G c (i := 57) (j := 88) rfl rfl
  have D_law_examples : Dn T "_law_examples" s_law_examples := dn_of KX G c (i := 58) (j := 89) rfl rfl
  have D_law_matches : Dn T "_law_matches" s_law_matches := dn_of KX G c (i := 59) (j := 90) rfl rfl
  have D_law_best : Dn T "_law_best" s_law_best := dn_of KX G c (i := 60) (j := 91) rfl rfl
  have D_law_explains : Dn T "_law_explains" s_law_explains := dn_of KX G c (i := 61) (j := 92) rfl rfl
  have D_law_holds : Dn T "_law_holds" s_law_holds := dn_of KX G c (i := 62) (j := 93) rfl rfl
  have D_law_foretold : Dn T "_law_foretold" s_law_foretold := dn_of KX G c (i := 63) (j := 94) rfl rfl
  have D_law_small : Dn T "_law_small" s_law_small := dn_of KX G c (i := 64) (j := 95) rfl rfl
  have D_law : Dn T "law" s_law := dn_of KX G c (i := 65) (j := 96) rfl rfl
  obtain ⟨fdS, G_Scheme⟩ := c.def_ 4 rfl
  obtain ⟨fdR, G_Ray⟩ := c.def_ 25 rfl
  have M_Scheme := He.mkr_ok (x := "Scheme") (c.fact 27 rfl)
  have M_Ray := He.mkr_ok (x := "Ray") (c.fact 32 rfl)
  have hm_Scheme := He.glo_ok KX G (x := "Scheme") (c.fact 22 rfl)
  have hm_Ray := He.glo_ok KX G (x := "Ray") (c.fact 28 rfl)
  have C_plus := ok_plus F D_plus
  have C_minus := ok_minus F D_minus
  have C_product := ok_product F D_product
  have C_size := ok_size F D_size
  have C_are_near := ok_near F D_are_near
  have C_added := ok_added F C_size C_are_near D_added
  have C_kinds_of := ok_kinds_of F D_kinds_of
  have C_counts_of := ok_counts_of F C_size C_kinds_of C_plus C_added D_counts_of
  have C_bare := ok_bare D_bare
  have C_sequences_of := ok_sequences_of C_bare D_sequences_of
  have C_are_groups := ok_are_groups F D_are_groups
  have C_Scheme := ok_Scheme F C_are_groups G_Scheme M_Scheme hm_Scheme
  have C_nodes := ok_nodes F D_nodes
  have C_is_end := ok_is_end F D_is_end
  have C_moves := ok_moves F C_added D_moves
  have C_with := ok_with F D_with
  have C_without := ok_without F D_without
  have C_ways_to_go := ok_ways_to_go F C_size C_nodes C_is_end C_moves C_with D_ways_to_go
  have C_ways_from := ok_ways_from F C_size C_nodes C_moves C_with D_ways_from
  have C_possible_counts := ok_possible_counts F C_ways_to_go D_possible_counts
  have C_is_below := ok_is_below F D_is_below
  have C_minimal_counts := ok_minimal_counts F C_possible_counts C_is_below D_minimal_counts
  have C_count_with := ok_count_with F C_ways_to_go D_count_with
  have C_matches_with := ok_matches_with F C_ways_from C_ways_to_go C_moves C_without D_matches_with
  have C_joined := ok_joined F D_joined
  have C_come_from := ok_come_from F C_nodes C_moves C_product C_joined D_come_from
  have C_table_of := ok_table_of F C_come_from D_table_of
  have C_reduced := ok_reduced F D_reduced
  have C_Ray := ok_Ray F G_Ray M_Ray hm_Ray
  have C_first_rays := ok_first_rays F C_Ray D_first_rays
  have C_common := ok_common F D_common
  have C_are_neighbours := ok_neighbours F C_common D_are_neighbours
  have C_between := ok_between F C_Ray C_reduced C_common D_between
  have C_cut := ok_cut F C_Ray C_product C_are_neighbours C_between D_cut
  have C_rays_of := ok_rays_of F C_first_rays C_cut D_rays_of
  have C_inner_costs := ok_inner F C_plus C_reduced D_inner_costs
  have C_limits_of_counts := ok_limits_of_counts F C_minimal_counts C_minus D_limits_of_counts
  have C_limits_of_examples := ok_limits_of_examples F C_sequences_of C_limits_of_counts C_counts_of D_limits_of_examples
  have C_rays_of_examples := ok_rays_of_examples F C_rays_of C_size C_limits_of_examples D_rays_of_examples
  have C_explaining_costs := ok_explaining_costs F C_inner_costs C_rays_of_examples D_explaining_costs
  have C_explanation := ok_explanation F C_explaining_costs C_sequences_of C_table_of D_explanation
  have C_best_for_some := ok_best_for_some F C_limits_of_examples C_minimal_counts C_limits_of_counts C_inner_costs C_rays_of C_size D_best_for_some
  have C_matches := ok_matches F C_best_for_some C_count_with C_matches_with D_matches
  have C_certain_for_all := ok_certain F C_matches D_certain_for_all
  have C_possible_for_some := ok_possible F C_matches D_possible_for_some
  have C_law_draw := ok_draw F D_law_draw
  have C_law_cell := ok_cell F D_law_cell
  have C_law_row := ok_row F C_law_cell D_law_row
  have C_law_word := ok_word F C_law_draw D_law_word
  have C_law_plain := ok_plain F D_law_plain
  have C_law_all := ok_all F D_law_all 7
  have C_law_scheme := ok_sch F C_law_draw D_law_scheme
  have C_law_size := ok_sz F D_law_size
  have C_law_is_near := ok_nr F D_law_is_near
  have C_law_counts := ok_cnt F C_law_is_near D_law_counts
  have C_law_cost := ok_cst F D_law_cost
  have C_law_made := ok_md F C_Scheme D_law_made
  have C_law_matches := ok_mts F D_law_matches
  have C_law_likely := ok_lk F C_law_all C_law_draw C_law_size C_law_cost C_law_counts D_law_likely
  have C_law_examples := ok_ex F C_law_word C_law_likely D_law_examples
  have C_law_best := ok_bst F C_law_all C_law_cost C_law_counts D_law_best
  have C_law_explains := ok_xp F C_law_best C_law_plain D_law_explains
  have C_law_holds := ok_hd F C_law_matches C_law_counts D_law_holds
  have C_law_foretold := ok_ft F C_best_for_some C_certain_for_all C_possible_for_some D_law_foretold
  have C_law_small := ok_sm F C_law_draw C_law_size D_law_small
  exact ok_law F C_law_row C_law_scheme C_law_made C_law_examples C_law_draw C_law_word C_law_foretold C_explanation C_law_small C_law_explains C_law_holds C_law_best C_law_plain (T := T) FD
theorem facts {P : Program} {w : World} {K : PySem.W.Frag} {h : Heap} {mg : Str → Option Value} {f : Addr} (KX : K.In h) (G : h.Ns mainGlobals mg) (hfa : mg ("law" : Str) = some (.ref f)) (c : He.SaysD fa fn K) (cx : exB K = true) :
    ∃ fd : FuncData, (∀ (s : Shared) (v : Value), BindsTo s fd ⟨[v], []⟩ [("_law_script", v)]) ∧ ∀ base : Heap, K.In base → base.Ns mainGlobals mg → FnOk P w K mg base CX0 13 f fd ["_law_script"] (spLaw K) := by
  obtain ⟨fd, FD⟩ := c.def_ 65 (d := dTop "law" s_law) rfl
  have e := hfa.symm.trans (He.glo_ok KX G (x := "law") (c.fact 96 rfl))
  cases e
  have b := FunD.bindsA (ps := ["_law_script"]) FD fun _ _ _ _ _ _ us hl => match us, hl with | [_], _ => rfl
  refine ⟨fd, fun s v => b s [v] rfl, fun base _ _ => ?_⟩
  obtain ⟨cg, ct⟩ := He.ba cx
  exact facts2 KX G c cg ct FD
theorem says {K : PySem.W.Frag} (H : Hp) (a : Addr) (ns : List Int) (hS : SqL K H a (ns.map V.int)) : spLaw K [.ref a] H (fun v _ => v = .bl true) fun _ _ _ => False :=
  ⟨ns, H, Sub.refl, (fun _ z => nomatch z), .cons ⟨⟨a, rfl, hS⟩, fun _ z => z⟩ .nil, trivial, fun v x B H' _ e rv => by rw [show v = V.bl x from rv, show x = true from e]⟩
end Rf
open PySem PySem.W PySem.Calls PyProof.Rows
theorem PySem.Challenge.cw_rightfares_k28_whole_foretold_holds_holds : PySem.Challenge.rw_rightfares_k28_whole_foretold_holds.Holds := by
  w_on; o_law
  refine HandSHeadRun.head_imp (r := OpenLaw.row PySem.Challenge.rw_rightfares_k28_whole_foretold_holds) (q := view (OpenLaw.row PySem.Challenge.rw_rightfares_k28_whole_foretold_holds).prog [0, Rf.lawIx]) (H := Rf.hk) (ob := Rf.ob) (M := 8000) (loose := Rf.lo) (d := HandSHeadRun.topDef (OpenLaw.row PySem.Challenge.rw_rightfares_k28_whole_foretold_holds).prog Rf.lawIx) (kwd := []) Rf.ob_eq
    Rf.run (by kernel_rfl) (by kernel_rfl) (by kernel_rfl) (by rfl) (by first | assumption | decide +kernel) (by decide +kernel) ⟨rfl, rfl, rfl, rfl, rfl, by decide +kernel⟩ ?hw ?hc
  case hw => w_witness2
  case hc =>
    refine L2.walk_ofE (l := PySem.Challenge.rw_rightfares_k28_whole_foretold_holds) (n := 63) (k := 13) (x := "_law_script") (CX := L2.CX0) rfl (by decide) (by kernel_rfl) ⟨rfl, by decide, by decide⟩ ?F (fun _ _ _ _ z => z)
    intro w mg fa h Y G hmg0
    obtain ⟨K, KX, c, cx⟩ := Y
    have hmg : mg ("law" : PySem.Str) = some (.ref fa) := by
      have e : (HandSHeadRun.topDef (OpenLaw.row PySem.Challenge.rw_rightfares_k28_whole_foretold_holds).prog Rf.lawIx).name = ("law" : PySem.Str) := by kernel_rfl
      rw [← e]
      exact hmg0
    obtain ⟨fd, hb, hF⟩ := Rf.facts (P := (PySem.Challenge.rw_rightfares_k28_whole_foretold_holds).prog) (w := w) KX G hmg c cx
    exact ⟨K, fd, Rf.spLaw K, KX, hb, fun H a ns _ _ hS => Rf.says H a ns hS, hF⟩
