import PyProof.Rows.All
import Wide.All
import OpenK.AllK
import Wide.FinOn
import HandS.ForMost
import HandS.Wide
import HandS.WideBits
import HandS.Style
import HandS.EndBits
import PyProof.ReprRoads
import PyProof.ReprLen
import PyProof.StrLawsRepr
import PyProof.FitsInt
import HandS.More
import HandS.SortInts
import HandS.SortRule
import HandS.Zip
import KE.GoesEnum
import HandS.IsInst
import HandS.TupAny
import HandS.Deep
import HandS.SetFor
import PySem.Challenge.RW_divisorways_k87_whole_perfect_and_kinds
set_option Elab.async false
set_option maxRecDepth 100000
set_option maxHeartbeats 4000000
set_option linter.all false
/-! W0: worlds, the mirror's monads, the judgement of an expression and its mirror in lockstep -/
namespace Wk
open PySem L2
open PyProof.Rows hiding St

/-! ### heaps -/
def Ex (S H : Hp) : Prop := ∀ a o, S a = some o → H a = some o
theorem Ex.rf {S : Hp} : Ex S S := fun _ _ h => h
theorem Ex.tr {S H K : Hp} (a : Ex S H) (b : Ex H K) : Ex S K := fun x o h => b x o (a x o h)
theorem Ex.no {S H : Hp} (e : Ex S H) {a : Addr} (h : H a = none) : S a = none := by
  cases q : S a with
  | none => rfl
  | some o => rw [e a o q] at h; cases h
structure Gm (M : List Addr) (S H S' H' : Hp) : Prop where
  s : Ex S S'
  i : Ex S' H'
  h : ∀ a o, a ∉ M → H a = some o → H' a = some o
  f : ∀ a o, H a = some o → S a = none → S' a = none
  t : ∀ a o, H a = some o → ∃ u, H' a = some u
theorem Gm.rf {M : List Addr} {S H : Hp} (e : Ex S H) : Gm M S H S H := ⟨Ex.rf, e, fun _ _ _ h => h, fun _ _ _ h => h, fun _ o h => ⟨o, h⟩⟩
theorem Gm.tr {M : List Addr} {S H S1 H1 S2 H2 : Hp} (a : Gm M S H S1 H1) (b : Gm M S1 H1 S2 H2) : Gm M S H S2 H2 :=
  ⟨a.s.tr b.s, b.i, fun x o m h => b.h x o m (a.h x o m h), fun x o h n => let ⟨u, q⟩ := a.t x o h; b.f x u q (a.f x o h n), fun x o h => let ⟨u, q⟩ := a.t x o h; b.t x u q⟩
theorem Gm.up {M : List Addr} {S H S1 H1 : Hp} (a : Gm [] S H S1 H1) : Gm M S H S1 H1 := ⟨a.s, a.i, fun x o _ h => a.h x o (by simp) h, a.f, a.t⟩
/-- a new object that stays as it is -/
theorem Gm.new {M : List Addr} {S H : Hp} {p : Addr} {o : HO} (e : Ex S H) (n : H p = none) : Gm M S H (upd S p o) (upd H p o) := by
  have ns := e.no n
  refine ⟨fun a u h => ?_, fun a u h => ?_, fun a u _ h => ?_, fun a u h m => ?_, fun a u h => ⟨u, ?_⟩⟩
  · rw [upd_ne (ne_of_none h ns)]; exact h
  · by_cases q : a = p
    · subst q; rw [upd_same] at h ⊢; exact h
    · rw [upd_ne q] at h ⊢; exact e a u h
  · rw [upd_ne (ne_of_none h n)]; exact h
  · rw [upd_ne (ne_of_none h n)]; exact m
  · rw [upd_ne (ne_of_none h n)]; exact h
/-- a new object that may change -/
theorem Gm.own {M : List Addr} {S H : Hp} {p : Addr} {o : HO} (e : Ex S H) (n : H p = none) : Gm M S H S (upd H p o) := by
  refine ⟨Ex.rf, fun a u h => ?_, fun a u _ h => ?_, fun a u h m => m, fun a u h => ⟨u, ?_⟩⟩
  · rw [upd_ne (ne_of_none (e a u h) n)]; exact e a u h
  · rw [upd_ne (ne_of_none h n)]; exact h
  · rw [upd_ne (ne_of_none h n)]; exact h

/-! ### what changes beside: a lot of cells -/
structure Pt (τ : Type) where
  M : List Addr
  cells : τ → List (Addr × HO)
  adr : ∀ s, (cells s).map (·.1) = M
  nd : M.Nodup
def pt0 : Pt Unit := ⟨[], fun _ => [], fun _ => rfl, List.nodup_nil⟩
def PotAt {τ : Type} (p : Pt τ) (s : τ) (S H : Hp) : Prop := ∀ c ∈ p.cells s, H c.1 = some c.2 ∧ S c.1 = none
theorem pot0 {S H : Hp} : PotAt pt0 () S H := fun _ h => nomatch h
theorem PotAt.go {τ : Type} {p : Pt τ} {s : τ} {S H S1 H1 : Hp} (a : PotAt p s S H) (g : Gm [] S H S1 H1) : PotAt p s S1 H1 := fun c hc =>
  ⟨g.h _ _ (by simp) (a c hc).1, g.f _ _ (a c hc).1 (a c hc).2⟩

/-! ### the mirror's monads -/
class Mir (μ : Type → Type) (τ : outParam Type) extends Monad μ where
  run : {α : Type} → μ α → τ → Option (α × τ)
  run_pure : ∀ {α : Type} (a : α) (s : τ), run (pure a : μ α) s = some (a, s)
  run_bind : ∀ {α β : Type} (m : μ α) (k : α → μ β) (s : τ), run (m >>= k) s = (run m s).bind fun z => run (k z.1) z.2
  lft : {α : Type} → Option α → μ α
  run_lft : ∀ {α : Type} (o : Option α) (s : τ), run (lft o : μ α) s = o.map fun a => (a, s)
instance : Mir Option Unit where
  run o _ := o.map fun a => (a, ())
  run_pure _ _ := rfl
  run_bind m k s := by cases m <;> rfl
  lft o := o
  run_lft _ _ := rfl
def PM (τ α : Type) : Type := τ → Option (α × τ)
instance (τ : Type) : Monad (PM τ) where
  pure a := fun s => some (a, s)
  bind m k := fun s => (m s).bind fun z => k z.1 z.2
instance (τ : Type) : Mir (PM τ) τ where
  run m s := m s
  run_pure _ _ := rfl
  run_bind _ _ _ := rfl
  lft o := fun s => o.map fun a => (a, s)
  run_lft _ _ := rfl
/-- a name for a value -/
def bnd {α β : Type} (a : α) (k : α → β) : β := k a
/-- a condition that must hold -/
def grd (c : Prop) [Decidable c] : Option Unit := if c then some () else none
section
variable {μ : Type → Type} {τ : Type} [Mir μ τ] {α β : Type}
theorem run_of_bind {m : μ α} {k : α → μ β} {s : τ} {z : β × τ} (h : Mir.run (m >>= k) s = some z) : ∃ a s1, Mir.run m s = some (a, s1) ∧ Mir.run (k a) s1 = some z := by
  rw [Mir.run_bind] at h
  cases e : Mir.run m s with
  | none => rw [e] at h; cases h
  | some y => rw [e] at h; exact ⟨y.1, y.2, rfl, h⟩
theorem run_of_lft {o : Option α} {k : α → μ β} {s : τ} {z : β × τ} (h : Mir.run (Mir.lft o >>= k) s = some z) : ∃ a, o = some a ∧ Mir.run (k a) s = some z := by
  obtain ⟨a, s1, h1, h2⟩ := run_of_bind h
  rw [Mir.run_lft] at h1
  cases e : o with
  | none => rw [e] at h1; cases h1
  | some y =>
    rw [e] at h1
    have q : (y, s) = (a, s1) := Option.some.inj h1
    cases q
    exact ⟨_, rfl, h2⟩
theorem run_of_pure {a : α} {s : τ} {z : α × τ} (h : Mir.run (pure a : μ α) s = some z) : z = (a, s) := by
  rw [Mir.run_pure] at h
  exact (Option.some.inj h).symm
theorem run_of_pureB {a : α} {k : α → μ β} {s : τ} {z : β × τ} (h : Mir.run (pure a >>= k) s = some z) : Mir.run (k a) s = some z := by
  obtain ⟨b, s1, h1, h2⟩ := run_of_bind h
  cases run_of_pure h1
  exact h2
theorem grd_of {c : Prop} [Decidable c] {u : Unit} (h : grd c = some u) : c := by
  unfold grd at h
  split at h
  · assumption
  · cases h
end

/-! ### what stands for what -/
abbrev Rp (α : Type) := α → V → Hp → Prop
abbrev Rq (α : Type) := α → List V → Hp → Prop
class Mo {α β : Type} (R : α → β → Hp → Prop) : Prop where
  mo : ∀ {a : α} {v : β} {S S' : Hp}, Ex S S' → R a v S → R a v S'
def rI : Rp Int := fun a v _ => v = .int a
def rB : Rp Bool := fun a v _ => v = .bl a
def rS : Rp Str := fun a v _ => v = .str a
def rN : Rp Unit := fun _ v _ => v = .non
instance : Mo rI := ⟨fun _ h => h⟩
instance : Mo rB := ⟨fun _ h => h⟩
instance : Mo rS := ⟨fun _ h => h⟩
instance : Mo rN := ⟨fun _ h => h⟩
/-- None or a value -/
def rO {α : Type} (R : Rp α) : Rp (Option α) := fun a v S => match a with | none => v = .non | some x => R x v S
instance {α : Type} (R : Rp α) [Mo R] : Mo (rO R) := ⟨fun {a v S S'} e h => by
  cases a with
  | none => exact h
  | some x => exact Mo.mo (R := R) e h⟩
/-- one or the other -/
def rU {α β : Type} (R : Rp α) (R' : Rp β) : Rp (α ⊕ β) := fun a v S => match a with | .inl x => R x v S | .inr y => R' y v S
instance {α β : Type} (R : Rp α) (R' : Rp β) [Mo R] [Mo R'] : Mo (rU R R') := ⟨fun {a v S S'} e h => by
  cases a with
  | inl x => exact Mo.mo (R := R) e h
  | inr x => exact Mo.mo (R := R') e h⟩
def aNil : Rq Unit := fun _ vs _ => vs = []
def aOne {α : Type} (R : Rp α) : Rq α := fun a vs S => ∃ v, vs = [v] ∧ R a v S
def aCons {α β : Type} (R : Rp α) (A : Rq β) : Rq (α × β) := fun a vs S => ∃ v r, vs = v :: r ∧ R a.1 v S ∧ A a.2 r S
inductive All {α : Type} (R : Rp α) (S : Hp) : List α → List V → Prop
  | nil : All R S [] []
  | cons {a : α} {as : List α} {v : V} {vs : List V} : R a v S → All R S as vs → All R S (a :: as) (v :: vs)
def aAll {α : Type} (R : Rp α) : Rq (List α) := fun xs vs S => All R S xs vs
instance : Mo aNil := ⟨fun _ h => h⟩
instance {α : Type} (R : Rp α) [Mo R] : Mo (aOne R) := ⟨fun e ⟨v, h1, h2⟩ => ⟨v, h1, Mo.mo e h2⟩⟩
instance {α β : Type} (R : Rp α) (A : Rq β) [Mo R] [Mo A] : Mo (aCons R A) := ⟨fun e ⟨v, r, h1, h2, h3⟩ => ⟨v, r, h1, Mo.mo e h2, Mo.mo e h3⟩⟩
theorem All.mo {α : Type} {R : Rp α} [Mo R] {S S' : Hp} (e : Ex S S') : ∀ {xs : List α} {vs : List V}, All R S xs vs → All R S' xs vs
  | _, _, .nil => .nil
  | _, _, .cons h t => .cons (Mo.mo e h) (t.mo e)
instance {α : Type} (R : Rp α) [Mo R] : Mo (aAll R) := ⟨fun e h => All.mo e h⟩
theorem All.len {α : Type} {R : Rp α} {S : Hp} : ∀ {xs : List α} {vs : List V}, All R S xs vs → xs.length = vs.length
  | _, _, .nil => rfl
  | _, _, .cons _ t => by simp [t.len]
theorem All.get {α : Type} {R : Rp α} {S : Hp} : ∀ {xs : List α} {vs : List V} {i : Nat} {x : α}, All R S xs vs → xs[i]? = some x → ∃ v, vs[i]? = some v ∧ R x v S
  | _, _, _, _, .nil, e => by simp at e
  | _, _, 0, _, .cons h _, e => by simp at e; subst e; exact ⟨_, rfl, h⟩
  | _, _, i + 1, x, .cons _ t, e => by
    obtain ⟨v, h1, h2⟩ := t.get (i := i) (x := x) (by simpa using e)
    exact ⟨v, by simpa using h1, h2⟩
theorem All.app {α : Type} {R : Rp α} {S : Hp} : ∀ {xs ys : List α} {vs us : List V}, All R S xs vs → All R S ys us → All R S (xs ++ ys) (vs ++ us)
  | _, _, _, _, .nil, h => h
  | _, _, _, _, .cons h t, g => .cons h (t.app g)
theorem All.take {α : Type} {R : Rp α} {S : Hp} : ∀ {xs : List α} {vs : List V} (n : Nat), All R S xs vs → All R S (xs.take n) (vs.take n)
  | _, _, 0, _ => .nil
  | _, _, _ + 1, .nil => .nil
  | _, _, n + 1, .cons h t => .cons h (t.take n)
theorem All.drop {α : Type} {R : Rp α} {S : Hp} : ∀ {xs : List α} {vs : List V} (n : Nat), All R S xs vs → All R S (xs.drop n) (vs.drop n)
  | _, _, 0, h => h
  | _, _, _ + 1, .nil => .nil
  | _, _, n + 1, .cons _ t => t.drop n
theorem All.set {α : Type} {R : Rp α} {S : Hp} {x : α} {v : V} (h : R x v S) : ∀ {xs : List α} {vs : List V} (n : Nat), All R S xs vs → All R S (xs.set n x) (vs.set n v)
  | _, _, _, .nil => .nil
  | _, _, 0, .cons _ t => .cons h t
  | _, _, n + 1, .cons g t => .cons g (t.set h n)
theorem All.ints {S : Hp} : ∀ {xs : List Int} {vs : List V}, All rI S xs vs → vs = xs.map V.int
  | _, _, .nil => rfl
  | _, _, .cons h t => by rw [t.ints, show _ = V.int _ from h]; rfl
theorem All.ofInts {S : Hp} : ∀ xs : List Int, All rI S xs (xs.map V.int)
  | [] => .nil
  | x :: xs => .cons rfl (All.ofInts xs)
theorem All.bools {S : Hp} : ∀ {xs : List Bool} {vs : List V}, All rB S xs vs → vs = xs.map V.bl
  | _, _, .nil => rfl
  | _, _, .cons h t => by rw [t.bools, show _ = V.bl _ from h]; rfl
/-- a tuple, a list that stays -/
def rT {α : Type} (K : PySem.W.Frag) (A : Rq α) : Rp α := fun a v S => ∃ p vs, v = .ref p ∧ SqT K S p vs ∧ A a vs S
def rL {α : Type} (A : Rq α) : Rp α := fun a v S => ∃ p vs, v = .ref p ∧ S p = some (.lst vs) ∧ A a vs S
theorem rd_ex {S S' : Hp} (e : Ex S S') {a : Addr} {u : HO} (h : Rd S a u) : Rd S' a u := by
  rcases h with h | ⟨o, h⟩
  · exact .inl (e _ _ h)
  · exact .inr ⟨o, e _ _ h⟩
theorem sqT_ex {K : PySem.W.Frag} {S S' : Hp} (e : Ex S S') {a : Addr} {xs : List V} (h : SqT K S a xs) : SqT K S' a xs := by
  rcases h with h | h
  · exact .inl (rd_ex e h)
  · exact .inr h
theorem sqL_ex {K : PySem.W.Frag} {S S' : Hp} (e : Ex S S') {a : Addr} {xs : List V} (h : SqL K S a xs) : SqL K S' a xs := by
  rcases h with h | h
  · exact .inl (rd_ex e h)
  · exact .inr h
instance {α : Type} (K : PySem.W.Frag) (A : Rq α) [Mo A] : Mo (rT K A) := ⟨fun e ⟨p, vs, h1, h2, h3⟩ => ⟨p, vs, h1, sqT_ex e h2, Mo.mo e h3⟩⟩
instance {α : Type} (A : Rq α) [Mo A] : Mo (rL A) := ⟨fun e ⟨p, vs, h1, h2, h3⟩ => ⟨p, vs, h1, e _ _ h2, Mo.mo e h3⟩⟩

/-! ### the judgements: the program's reading and the mirror go in lockstep -/
section
variable {μ : Type → Type} {τ : Type} [Mir μ τ] {α β γ δ : Type}
def Ev (p : Pt τ) (te : TE) (σ : St) (S H : Hp) (m : (α → μ β) → μ β) (R : Rp α) : Prop :=
  ∀ S1 H1 s, Gm p.M S H S1 H1 → PotAt p s S1 H1 → ∀ (k : α → μ β) z, Mir.run (m k) s = some z → ∀ Q : VK,
    (∀ a v S2 H2 s2, Gm p.M S1 H1 S2 H2 → PotAt p s2 S2 H2 → R a v S2 → Mir.run (k a) s2 = some z → Q v H2) → te σ H1 Q
/-- a new list -/
def EvL (p : Pt τ) (te : TE) (σ : St) (S H : Hp) (m : (α → μ β) → μ β) (A : Rq α) : Prop :=
  ∀ S1 H1 s, Gm p.M S H S1 H1 → PotAt p s S1 H1 → ∀ (k : α → μ β) z, Mir.run (m k) s = some z → ∀ Q : VK,
    (∀ a q vs S2 H2 s2, Gm p.M S1 H1 S2 H2 → PotAt p s2 S2 H2 → H1 q = none → H2 q = some (.lst vs) → S2 q = none → q ∉ p.M → A a vs S2 → Mir.run (k a) s2 = some z → Q (.ref q) H2) → te σ H1 Q
/-- a list that can be read -/
def EvR (p : Pt τ) (te : TE) (σ : St) (S H : Hp) (m : (α → μ β) → μ β) (A : Rq α) : Prop :=
  ∀ S1 H1 s, Gm p.M S H S1 H1 → PotAt p s S1 H1 → ∀ (k : α → μ β) z, Mir.run (m k) s = some z → ∀ Q : VK,
    (∀ a q vs S2 H2 s2, Gm p.M S1 H1 S2 H2 → PotAt p s2 S2 H2 → H2 q = some (.lst vs) → q ∉ p.M → A a vs S2 → Mir.run (k a) s2 = some z → Q (.ref q) H2) → te σ H1 Q
def EvT (p : Pt τ) (tt : TT) (σ : St) (S H : Hp) (m : (Bool → μ β) → μ β) : Prop :=
  ∀ S1 H1 s, Gm p.M S H S1 H1 → PotAt p s S1 H1 → ∀ (k : Bool → μ β) z, Mir.run (m k) s = some z → ∀ Q : Bool → Hp → Prop,
    (∀ b S2 H2 s2, Gm p.M S1 H1 S2 H2 → PotAt p s2 S2 H2 → Mir.run (k b) s2 = some z → Q b H2) → tt σ H1 Q
def EvA (p : Pt τ) (ta : TA) (σ : St) (S H : Hp) (m : (α → μ β) → μ β) (A : Rq α) : Prop :=
  ∀ S1 H1 s, Gm p.M S H S1 H1 → PotAt p s S1 H1 → ∀ (k : α → μ β) z, Mir.run (m k) s = some z → ∀ Q : List V → Hp → Prop,
    (∀ a vs S2 H2 s2, Gm p.M S1 H1 S2 H2 → PotAt p s2 S2 H2 → A a vs S2 → Mir.run (k a) s2 = some z → Q vs H2) → ta σ H1 Q
variable {p : Pt τ} {σ : St} {S H : Hp} {te ta tb : TE} {tt tu : TT}
theorem Ev.go {m : (α → μ β) → μ β} {R : Rp α} {S1 H1 : Hp} (h : Ev p te σ S H m R) (g : Gm p.M S H S1 H1) : Ev p te σ S1 H1 m R :=
  fun S2 H2 s g2 ps => h S2 H2 s (g.tr g2) ps

theorem e_var {i : Nat} {a : α} {v : V} {R : Rp α} [Mo R] (e : σ[i]? = some (some v)) (r : R a v S) : Ev (μ := μ) (β := β) p (tVar i) σ S H (fun k => k a) R :=
  fun _ _ _ g ps _ _ hm _ q => ⟨v, e, q _ _ _ _ _ (Gm.rf g.i) ps (Mo.mo g.s r) hm⟩
theorem e_cI {i : Int} : Ev (μ := μ) (β := β) p (tC (.int i)) σ S H (fun k => k i) rI := fun _ _ _ g ps _ _ hm _ q => q _ _ _ _ _ (Gm.rf g.i) ps rfl hm
theorem e_cB {b : Bool} : Ev (μ := μ) (β := β) p (tC (.bl b)) σ S H (fun k => k b) rB := fun _ _ _ g ps _ _ hm _ q => q _ _ _ _ _ (Gm.rf g.i) ps rfl hm
theorem e_cS {x : Str} : Ev (μ := μ) (β := β) p (tC (.str x)) σ S H (fun k => k x) rS := fun _ _ _ g ps _ _ hm _ q => q _ _ _ _ _ (Gm.rf g.i) ps rfl hm
theorem e_cN : Ev (μ := μ) (β := β) p (tC .non) σ S H (fun k => k ()) rN := fun _ _ _ g ps _ _ hm _ q => q _ _ _ _ _ (Gm.rf g.i) ps rfl hm
/-- a value is also one of more kinds -/
theorem Ev.map {m : (α → μ β) → μ β} {R : Rp α} {R' : Rp γ} (f : α → γ) (h : Ev p te σ S H m R) (hr : ∀ a v S, R a v S → R' (f a) v S) : Ev p te σ S H (fun k => m fun a => k (f a)) R' :=
  fun S1 H1 s g ps k z hm Q q => h S1 H1 s g ps _ z hm Q fun a v S2 H2 s2 g2 p2 r hm2 => q _ v S2 H2 s2 g2 p2 (hr _ _ _ r) hm2
theorem Ev.some {m : (α → μ β) → μ β} {R : Rp α} (h : Ev p te σ S H m R) : Ev p te σ S H (fun k => m fun a => k (Option.some a)) (rO R) := h.map Option.some fun _ _ _ r => r
theorem Ev.none {m : (Unit → μ β) → μ β} {R : Rp α} (h : Ev p te σ S H m rN) : Ev p te σ S H (fun k => m fun _ => k Option.none) (rO R) := h.map (fun _ => Option.none) fun _ _ _ r => r
theorem Ev.inl {m : (α → μ β) → μ β} {R : Rp α} {R' : Rp γ} (h : Ev p te σ S H m R) : Ev p te σ S H (fun k => m fun a => k (Sum.inl a)) (rU R R') := h.map Sum.inl fun _ _ _ r => r
theorem Ev.inr {m : (α → μ β) → μ β} {R : Rp α} {R' : Rp γ} (h : Ev p te σ S H m R) : Ev p te σ S H (fun k => m fun a => k (Sum.inr a)) (rU R' R) := h.map Sum.inr fun _ _ _ r => r

/-! operators of two ints -/
theorem e_op {r : R2} {mA mB : (Int → μ β) → μ β} {f : Int → Int → (γ → μ β) → μ β} {R : Rp γ} (ha : Ev p ta σ S H mA rI) (hb : Ev p tb σ S H mB rI)
    (hr : ∀ i j H1 S1 s, Ex S1 H1 → ∀ (k : γ → μ β) z, Mir.run (f i j k) s = some z → ∀ Q : VK, (∀ c v, R c v S1 → Mir.run (k c) s = some z → Q v H1) → r (.int i) (.int j) H1 Q) :
    Ev p (tOp r ta tb) σ S H (fun k => mA fun i => mB fun j => f i j k) R := fun S1 H1 s g ps k z hm Q q =>
  ha S1 H1 s g ps _ z hm _ fun i v S2 H2 s2 g2 p2 r2 hm2 => hb S2 H2 s2 (g.tr g2) p2 _ z hm2 _ fun j u S3 H3 s3 g3 p3 r3 hm3 => by
    cases (show v = .int i from r2)
    cases (show u = .int j from r3)
    exact hr i j H3 S3 s3 g3.i k z hm3 Q fun c w rc hk => q c w S3 H3 s3 (g2.tr g3) p3 rc hk
/-- a total operator -/
theorem e_op0 {C : Int → Int → V} {D : Int → Int → γ} {mA mB : (Int → μ β) → μ β} {R : Rp γ} (ha : Ev p ta σ S H mA rI) (hb : Ev p tb σ S H mB rI) (hR : ∀ i j S, R (D i j) (C i j) S) :
    Ev p (tOp (rI0 C) ta tb) σ S H (fun k => mA fun i => mB fun j => k (D i j)) R :=
  e_op (f := fun i j k => k (D i j)) ha hb fun i j _ S1 s _ k z hm Q q => ⟨i, j, rfl, rfl, q _ _ (hR i j S1) hm⟩
/-- one with a condition -/
theorem e_opC {P : Int → Int → Prop} {C : Int → Int → V} {D : Int → Int → γ} {c : Int → Int → Prop} [∀ i j, Decidable (c i j)] {mA mB : (Int → μ β) → μ β} {R : Rp γ} (ha : Ev p ta σ S H mA rI) (hb : Ev p tb σ S H mB rI)
    (hc : ∀ i j, c i j → P i j) (hR : ∀ i j S, c i j → R (D i j) (C i j) S) :
    Ev p (tOp (L2.rI P C) ta tb) σ S H (fun k => mA fun i => mB fun j => Mir.lft (grd (c i j)) >>= fun _ => k (D i j)) R :=
  e_op (f := fun i j k => Mir.lft (grd (c i j)) >>= fun _ => k (D i j)) ha hb fun i j _ S1 s _ k z hm Q q => by
    obtain ⟨_, e, hm⟩ := run_of_lft hm
    have h := grd_of e
    exact ⟨i, j, rfl, rfl, hc i j h, q _ _ (hR i j S1 h) hm⟩
end
/-- of a size that no bound of the model meets -/
def Sm (a : Int) : Prop := a.natAbs.log2 < 60000000
instance (a : Int) : Decidable (Sm a) := inferInstanceAs (Decidable (_ < _))
theorem Sm.of {a : Int} {n : Nat} (h : a.natAbs < 2 ^ n) (h0 : 0 < n) (hn : n ≤ 60000000) : Sm a := Nat.lt_of_lt_of_le (PySem.Flt.log2_lt_of h0 h) hn
theorem bits_log (a : Int) : Builtin.Int.intBits a ≤ a.natAbs.log2 + 1 := by
  unfold Builtin.Int.intBits
  split <;> omega
theorem Sm.mul {a b : Int} (h : Sm a ∧ Sm b) : CMulX a b := by
  have h1 := bits_log a
  have h2 := bits_log b
  unfold Sm at h
  unfold CMulX
  omega
end Wk
set_option Elab.async false
set_option maxRecDepth 100000
set_option maxHeartbeats 4000000
set_option linter.all false
/-! W1: the world of a def's body, statements, loops, comprehensions -/
namespace Wk
open PySem L2
open PyProof.Rows hiding St
section
variable {μ : Type → Type} {τ : Type} [Mir μ τ] {α β γ δ : Type} {p : Pt τ} {σ : St} {S H S0 H0 : Hp} {te ta tb : TE} {tt : TT} {L : List (Addr × HO)} {K : PySem.W.Frag}

/-- what a body knows: how it stands to its entry (S0, H0), its own objects L -/
structure Wd (p : Pt τ) (S0 H0 S H : Hp) (L : List (Addr × HO)) : Prop where
  g : Gm p.M S0 H0 S H
  o : ∀ c ∈ L, H c.1 = some c.2 ∧ S c.1 = none ∧ H0 c.1 = none
  n : (p.M ++ L.map (·.1)).Nodup
theorem Wd.start (e : Ex S H) : Wd p S H S H [] := ⟨Gm.rf e, fun _ h => (nomatch h), by simpa using p.nd⟩
theorem Wd.i (w : Wd p S0 H0 S H L) : Ex S H := w.g.i
theorem Wd.nm (w : Wd p S0 H0 S H L) {c : Addr × HO} (h : c ∈ L) : c.1 ∉ p.M := fun q => by
  have z := List.nodup_append.mp w.n
  exact z.2.2 c.1 q c.1 (List.mem_map_of_mem h) rfl
theorem Wd.go {S1 H1 : Hp} (w : Wd p S0 H0 S H L) (g : Gm p.M S H S1 H1) : Wd p S0 H0 S1 H1 L :=
  ⟨w.g.tr g, fun c h => ⟨g.h _ _ (w.nm h) (w.o c h).1, g.f _ _ (w.o c h).1 (w.o c h).2.1, (w.o c h).2.2⟩, w.n⟩
theorem Wd.add {S1 H1 : Hp} {q : Addr} {o : HO} (w : Wd p S0 H0 S H L) (g : Gm p.M S H S1 H1) (n : H q = none) (e : H1 q = some o) (s : S1 q = none) (m : q ∉ p.M) : Wd p S0 H0 S1 H1 ((q, o) :: L) := by
  have w1 := w.go g
  have n0 : H0 q = none := by
    cases z : H0 q with
    | none => rfl
    | some u =>
      obtain ⟨u', z'⟩ := w.g.t q u z
      rw [n] at z'; cases z'
  have nL : q ∉ L.map (·.1) := fun z => by
    obtain ⟨c, hc, e'⟩ := List.mem_map.mp z
    have := (w.o c hc).1
    rw [e', n] at this; cases this
  refine ⟨w1.g, fun c h => ?_, ?_⟩
  · rcases List.mem_cons.mp h with z | z
    · subst z; exact ⟨e, s, n0⟩
    · exact w1.o c z
  · have z := List.nodup_append.mp w.n
    rw [List.map_cons]
    refine List.nodup_append.mpr ⟨z.1, List.nodup_cons.mpr ⟨nL, z.2.1⟩, fun a ha b hb e' => ?_⟩
    rcases List.mem_cons.mp hb with z' | z'
    · have z2 : b = q := z'
      exact m (by rw [← z2, ← e']; exact ha)
    · exact z.2.2 a ha b z' e'
theorem Wd.at {i : Nat} {q : Addr} {o : HO} (w : Wd p S0 H0 S H L) (h : L[i]? = some (q, o)) : H q = some o ∧ S q = none ∧ H0 q = none := w.o (q, o) (List.mem_of_getElem? h)
theorem set_fst {q : Addr} {o o' : HO} : ∀ {L : List (Addr × HO)} {i : Nat}, L[i]? = some (q, o) → (L.set i (q, o')).map (·.1) = L.map (·.1)
  | [], _, h => by simp at h
  | c :: L, 0, h => by
    simp at h; subst h; rfl
  | c :: L, i + 1, h => by
    show c.1 :: (L.set i (q, o')).map (·.1) = c.1 :: L.map (·.1)
    rw [set_fst (i := i) (by simpa using h)]
theorem Gm.put {M : List Addr} {S1 H1 : Hp} {q : Addr} {o : HO} (g : Gm M S H S1 H1) (n : H q = none) (s : S1 q = none) : Gm M S H S1 (upd H1 q o) := by
  refine ⟨g.s, fun a u h => ?_, fun a u m h => ?_, g.f, fun a u h => ?_⟩
  · rw [upd_ne (ne_of_none h s)]; exact g.i a u h
  · rw [upd_ne (ne_of_none h n)]; exact g.h a u m h
  · rw [upd_ne (ne_of_none h n)]; exact g.t a u h
theorem Wd.put {i : Nat} {q : Addr} {o o' : HO} (w : Wd p S0 H0 S H L) (h : L[i]? = some (q, o)) : Wd p S0 H0 S (upd H q o') (L.set i (q, o')) := by
  obtain ⟨h1, h2, h3⟩ := w.at h
  refine ⟨w.g.put h3 h2, fun c hc => ?_, by rw [set_fst h]; exact w.n⟩
  have nd : (L.map (·.1)).Nodup := (List.nodup_append.mp w.n).2.1
  have hi : i < L.length := (List.getElem?_eq_some_iff.mp h).1
  obtain ⟨j, hj, e⟩ := List.mem_iff_getElem.mp hc
  by_cases ej : j = i
  · subst ej
    rw [List.getElem_set_self] at e
    subst e
    exact ⟨upd_same, h2, h3⟩
  · rw [List.getElem_set_ne (Ne.symm ej)] at e
    have hj' : j < L.length := by simpa using hj
    have mem : c ∈ L := by rw [← e]; exact List.getElem_mem hj'
    have ne : c.1 ≠ q := fun z => ej <| by
      have z1 : (L.map (·.1))[j]? = some q := by rw [List.getElem?_map, List.getElem?_eq_getElem hj', e]; simp [z]
      have z2 : (L.map (·.1))[i]? = some q := by rw [List.getElem?_map, h]; rfl
      exact nd_ix nd z1 z2
    obtain ⟨a, b, d⟩ := w.o c mem
    exact ⟨by rw [upd_ne ne]; exact a, b, d⟩
theorem PotAt.put {s : τ} {q : Addr} {o : HO} (a : PotAt p s S H) (m : q ∉ p.M) : PotAt p s S (upd H q o) := fun c hc => by
  have : c.1 ≠ q := fun z => m (by rw [← z, ← p.adr s]; exact List.mem_map_of_mem hc)
  exact ⟨by rw [upd_ne this]; exact (a c hc).1, (a c hc).2⟩
theorem PotAt.frz {s : τ} {q : Addr} {o : HO} (a : PotAt p s S H) (m : q ∉ p.M) : PotAt p s (upd S q o) H := fun c hc => by
  have : c.1 ≠ q := fun z => m (by rw [← z, ← p.adr s]; exact List.mem_map_of_mem hc)
  exact ⟨(a c hc).1, by rw [upd_ne this]; exact (a c hc).2⟩
theorem erase_sub {i : Nat} {c : Addr × HO} (h : c ∈ L.eraseIdx i) : c ∈ L := List.mem_of_mem_eraseIdx h
theorem ex_frz {q : Addr} {o : HO} (s : S q = none) : Ex S (upd S q o) := fun a u h => by rw [upd_ne (ne_of_none h s)]; exact h
/-- an own object stays from now on -/
theorem Wd.frz {i : Nat} {q : Addr} {o : HO} (w : Wd p S0 H0 S H L) (h : L[i]? = some (q, o)) : Wd p S0 H0 (upd S q o) H (L.eraseIdx i) := by
  obtain ⟨h1, h2, h3⟩ := w.at h
  have hi : i < L.length := (List.getElem?_eq_some_iff.mp h).1
  refine ⟨⟨w.g.s.tr (ex_frz h2), fun a u e => ?_, w.g.h, fun a u e n => ?_, w.g.t⟩, fun c hc => ?_, ?_⟩
  · by_cases z : a = q
    · subst z; rw [upd_same] at e; cases e; exact h1
    · rw [upd_ne z] at e; exact w.g.i a u e
  · rw [upd_ne (ne_of_none e h3)]; exact w.g.f a u e n
  · obtain ⟨a, b, d⟩ := w.o c (erase_sub hc)
    have nd : (L.map (·.1)).Nodup := (List.nodup_append.mp w.n).2.1
    have ne : c.1 ≠ q := fun z => by
      obtain ⟨j, hj, e⟩ := List.mem_iff_getElem.mp hc
      have e1 : L.eraseIdx i = L.take i ++ L.drop (i + 1) := List.eraseIdx_eq_take_drop_succ L i
      have e2 : L = L.take i ++ (q, o) :: L.drop (i + 1) := by
        have ev : L[i] = (q, o) := by
          have := List.getElem?_eq_getElem hi
          rw [h] at this
          exact (Option.some.inj this).symm
        rw [← ev]
        simp
      rw [e2, List.map_append, List.map_cons] at nd
      have nd' := List.nodup_append.mp nd
      rw [e1] at hc
      rcases List.mem_append.mp hc with z1 | z1
      · exact nd'.2.2 c.1 (List.mem_map_of_mem z1) q (by simp) z
      · exact (List.nodup_cons.mp nd'.2.1).1 (by show q ∈ _; rw [← z]; exact List.mem_map_of_mem (f := fun c : Addr × HO => c.1) z1)
    exact ⟨a, by rw [upd_ne ne]; exact b, d⟩
  · refine w.n.sublist (List.Sublist.append (List.Sublist.refl _) (List.Sublist.map _ (List.eraseIdx_sublist L i)))
theorem Wd.drop {i : Nat} (w : Wd p S0 H0 S H L) : Wd p S0 H0 S H (L.eraseIdx i) :=
  ⟨w.g, fun c h => w.o c (erase_sub h), w.n.sublist (List.Sublist.append (List.Sublist.refl _) (List.Sublist.map _ (List.eraseIdx_sublist L i)))⟩
/-- the values at some places -/
def pick {α : Type} (ix : List Nat) (l : List α) : List α := ix.filterMap fun i => l[i]?
theorem mem_pick {α : Type} {ix : List Nat} {l : List α} {a : α} (h : a ∈ pick ix l) : ∃ i ∈ ix, l[i]? = some a := List.mem_filterMap.mp h
theorem pick_nd {L : List (Addr × HO)} (nd : (L.map (·.1)).Nodup) : ∀ {ix : List Nat}, ix.Nodup → ((pick ix L).map (·.1)).Nodup
  | [], _ => List.nodup_nil
  | i :: ix, h => by
    have h' := List.nodup_cons.mp h
    have t := pick_nd nd h'.2
    unfold pick at t ⊢
    rw [List.filterMap_cons]
    cases e : L[i]? with
    | none => exact t
    | some c =>
      refine List.nodup_cons.mpr ⟨fun z => ?_, t⟩
      obtain ⟨d, hd, e2⟩ := List.mem_map.mp z
      obtain ⟨j, hj, e3⟩ := mem_pick hd
      have z1 : (L.map (·.1))[j]? = some c.1 := by rw [List.getElem?_map, e3]; simp [e2]
      have z2 : (L.map (·.1))[i]? = some c.1 := by rw [List.getElem?_map, e]; rfl
      exact h'.1 (nd_ix nd z2 z1 ▸ hj)
theorem Wd.pick (ix : List Nat) (w : Wd p S0 H0 S H L) (h : ix.Nodup) : Wd p S0 H0 S H (Wk.pick ix L) := by
  have z := List.nodup_append.mp w.n
  have sub : ∀ c ∈ Wk.pick ix L, c ∈ L := fun c hc => by
    obtain ⟨i, _, e⟩ := mem_pick hc
    exact List.mem_of_getElem? e
  refine ⟨w.g, fun c hc => w.o c (sub c hc), List.nodup_append.mpr ⟨z.1, pick_nd z.2.1 h, fun a ha b hb => ?_⟩⟩
  obtain ⟨c, hc, e⟩ := List.mem_map.mp hb
  exact z.2.2 a ha b (List.mem_map.mpr ⟨c, sub c hc, e⟩)
theorem Wd.nmAt {i : Nat} {q : Addr} {o : HO} (w : Wd p S0 H0 S H L) (h : L[i]? = some (q, o)) : q ∉ p.M := w.nm (c := (q, o)) (List.mem_of_getElem? h)

/-! ### lists that are made, read -/
theorem EvL.frz {A : Rq α} {m : (α → μ β) → μ β} [Mo A] (h : EvL p te σ S H m A) : Ev p te σ S H m (rL A) := fun S1 H1 s g ps k z hm Q q =>
  h S1 H1 s g ps k z hm Q fun a x vs S2 H2 s2 g2 p2 n1 e2 n2 m2 r hm2 => by
    refine q a (.ref x) (upd S2 x (.lst vs)) H2 s2 ⟨g2.s.tr (ex_frz n2), fun b u e => ?_, g2.h, fun b u e n => ?_, g2.t⟩ (p2.frz m2) ⟨x, vs, rfl, upd_same, Mo.mo (ex_frz n2) r⟩ hm2
    · by_cases z : b = x
      · subst z; rw [upd_same] at e; cases e; exact e2
      · rw [upd_ne z] at e; exact g2.i b u e
    · rw [upd_ne (ne_of_none e n1)]; exact g2.f b u e n
theorem EvL.rd {A : Rq α} {m : (α → μ β) → μ β} (h : EvL p te σ S H m A) : EvR p te σ S H m A := fun S1 H1 s g ps k z hm Q q =>
  h S1 H1 s g ps k z hm Q fun a x vs S2 H2 s2 g2 p2 _ e2 _ m2 r hm2 => q a x vs S2 H2 s2 g2 p2 e2 m2 r hm2
theorem pot_nM {s : τ} (ps : PotAt p s S H) {x : Addr} {o : HO} (hx : S x = some o) : x ∉ p.M := fun z => by
  rw [← p.adr s] at z
  obtain ⟨c, hc, e⟩ := List.mem_map.mp z
  have := (ps c hc).2
  rw [e, hx] at this; cases this
theorem Ev.rd {A : Rq α} {m : (α → μ β) → μ β} (h : Ev p te σ S H m (rL A)) : EvR p te σ S H m A := fun S1 H1 s g ps k z hm Q q =>
  h S1 H1 s g ps k z hm Q fun a v S2 H2 s2 g2 p2 ⟨x, vs, e, h1, h2⟩ hm2 => by
    subst e
    exact q a x vs S2 H2 s2 g2 p2 (g2.i _ _ h1) (pot_nM p2 h1) h2 hm2
theorem e_own {i : Nat} {a : α} {q : Addr} {vs : List V} {A : Rq α} [Mo A] (e : σ[i]? = some (some (.ref q))) (hq : H q = some (.lst vs)) (hM : q ∉ p.M) (r : A a vs S) : EvR (μ := μ) (β := β) p (tVar i) σ S H (fun k => k a) A :=
  fun _ _ _ g ps _ _ hm _ k => ⟨.ref q, e, k _ _ _ _ _ _ (Gm.rf g.i) ps (g.h _ _ hM hq) hM (Mo.mo g.s r) hm⟩
theorem w_own {i j : Nat} {a : α} {q : Addr} {vs : List V} {A : Rq α} [Mo A] (w : Wd p S0 H0 S H L) (hj : L[j]? = some (q, .lst vs)) (e : σ[i]? = some (some (.ref q))) (r : A a vs S) : EvR (μ := μ) (β := β) p (tVar i) σ S H (fun k => k a) A :=
  e_own e (w.at hj).1 (w.nmAt hj) r

/-! ### arguments, displays -/
theorem a_nil : EvA (μ := μ) (β := β) p tNil σ S H (fun k => k ()) aNil := fun _ _ _ g ps _ _ hm _ q => q _ _ _ _ _ (Gm.rf g.i) ps rfl hm
theorem a_one {m : (α → μ β) → μ β} {R : Rp α} (h : Ev p te σ S H m R) : EvA p (tCons te tNil) σ S H m (aOne R) := fun S1 H1 s g ps k z hm Q q =>
  h S1 H1 s g ps k z hm _ fun a v S2 H2 s2 g2 p2 r hm2 => q a [v] S2 H2 s2 g2 p2 ⟨v, rfl, r⟩ hm2
theorem a_cons {tr : TA} {m : (α → μ β) → μ β} {m' : (γ → μ β) → μ β} {R : Rp α} {A : Rq γ} [Mo R] (h : Ev p te σ S H m R) (h' : EvA p tr σ S H m' A) : EvA p (tCons te tr) σ S H (fun k => m fun a => m' fun b => k (a, b)) (aCons R A) := fun S1 H1 s g ps k z hm Q q =>
  h S1 H1 s g ps _ z hm _ fun a v S2 H2 s2 g2 p2 r hm2 => h' S2 H2 s2 (g.tr g2) p2 _ z hm2 _ fun b vs S3 H3 s3 g3 p3 r3 hm3 => q (a, b) (v :: vs) S3 H3 s3 (g2.tr g3) p3 ⟨v, vs, rfl, Mo.mo g3.s r, r3⟩ hm3
theorem a_nilL {R : Rp α} : EvA (μ := μ) (β := β) p tNil σ S H (fun k => k []) (aAll R) := fun _ _ _ g ps _ _ hm _ q => q _ _ _ _ _ (Gm.rf g.i) ps .nil hm
theorem a_consL {tr : TA} {m : (α → μ β) → μ β} {m' : (List α → μ β) → μ β} {R : Rp α} [Mo R] (h : Ev p te σ S H m R) (h' : EvA p tr σ S H m' (aAll R)) : EvA p (tCons te tr) σ S H (fun k => m fun a => m' fun b => k (a :: b)) (aAll R) := fun S1 H1 s g ps k z hm Q q =>
  h S1 H1 s g ps _ z hm _ fun a v S2 H2 s2 g2 p2 r hm2 => h' S2 H2 s2 (g.tr g2) p2 _ z hm2 _ fun b vs S3 H3 s3 g3 p3 r3 hm3 => q (a :: b) (v :: vs) S3 H3 s3 (g2.tr g3) p3 (.cons (Mo.mo g3.s r) r3) hm3
/-- how many values there are -/
def ArN (n : Nat) (A : Rq α) : Prop := ∀ a vs S, A a vs S → vs.length ≤ n
theorem arN_nil : ArN 0 aNil := fun _ vs _ h => by rw [show vs = [] from h]; exact Nat.le_refl _
theorem arN_one {R : Rp α} : ArN 1 (aOne R) := fun _ vs _ ⟨v, e, _⟩ => by rw [e]; exact Nat.le_refl _
theorem arN_cons {n : Nat} {R : Rp α} {A : Rq γ} (h : ArN n A) : ArN (n + 1) (aCons R A) := fun _ vs _ ⟨v, r, e, _, h2⟩ => by
  rw [e]
  exact Nat.succ_le_succ (h _ _ _ h2)
theorem e_tup {m : (α → μ β) → μ β} {A : Rq α} {t : TA} {n : Nat} [Mo A] (h : EvA p t σ S H m A) (hn : ArN n A) (hz : n ≤ sizeLine) : Ev p (tTup t) σ S H m (rT K A) := fun S1 H1 s g ps k z hm Q q =>
  h S1 H1 s g ps k z hm _ fun a vs S2 H2 s2 g2 p2 r hm2 => ⟨Nat.le_trans (hn _ _ _ r) hz, fun x hx =>
    have g3 : Gm p.M S2 H2 (upd S2 x (.tup vs)) (upd H2 x (.tup vs)) := Gm.new g2.i hx
    q a _ _ _ s2 (g2.tr g3) (p2.go (Gm.new g2.i hx)) ⟨x, vs, rfl, .of upd_same, Mo.mo g3.s r⟩ hm2⟩
/-- a display of one kind of items -/
theorem e_tupL {m : (List α → μ β) → μ β} {R : Rp α} {t : TA} [Mo R] (h : EvA p t σ S H m (aAll R)) : Ev p (tTup t) σ S H (fun k => m fun a => Mir.lft (grd (a.length ≤ 16000000)) >>= fun _ => k a) (rT K (aAll R)) := fun S1 H1 s g ps k z hm Q q =>
  h S1 H1 s g ps _ z hm _ fun a vs S2 H2 s2 g2 p2 r hm2 => by
    obtain ⟨_, e, hm2⟩ := run_of_lft hm2
    have hl := grd_of e
    have hr : All R S2 a vs := r
    refine ⟨by rw [← hr.len, sizeLine_eq]; omega, fun x hx => ?_⟩
    have g3 : Gm p.M S2 H2 (upd S2 x (.tup vs)) (upd H2 x (.tup vs)) := Gm.new g2.i hx
    exact q a _ _ _ s2 (g2.tr g3) (p2.go (Gm.new g2.i hx)) ⟨x, vs, rfl, .of upd_same, Mo.mo (R := aAll R) g3.s r⟩ hm2
theorem new_nM {s : τ} (ps : PotAt p s S H) {x : Addr} (hx : H x = none) : x ∉ p.M := fun z => by
  rw [← p.adr s] at z
  obtain ⟨c, hc, e⟩ := List.mem_map.mp z
  have := (ps c hc).1
  rw [e, hx] at this; cases this
theorem l_lst {m : (α → μ β) → μ β} {A : Rq α} {t : TA} {n : Nat} [Mo A] (h : EvA p t σ S H m A) (hn : ArN n A) (hz : n ≤ sizeLine) : EvL p (tLst t) σ S H m A := fun S1 H1 s g ps k z hm Q q =>
  h S1 H1 s g ps k z hm _ fun a vs S2 H2 s2 g2 p2 r hm2 => ⟨Nat.le_trans (hn _ _ _ r) hz, fun x hx =>
    have g3 : Gm p.M S2 H2 S2 (upd H2 x (.lst vs)) := Gm.own g2.i hx
    have n1 : H1 x = none := by
      cases e : H1 x with
      | none => rfl
      | some u => obtain ⟨u', e'⟩ := g2.t x u e; rw [hx] at e'; cases e'
    q a x vs S2 _ s2 (g2.tr g3) (p2.go (Gm.own g2.i hx)) n1 upd_same (g2.i.no hx) (new_nM p2 hx) r hm2⟩
theorem l_lstL {m : (List α → μ β) → μ β} {R : Rp α} {t : TA} [Mo R] (h : EvA p t σ S H m (aAll R)) : EvL p (tLst t) σ S H (fun k => m fun a => Mir.lft (grd (a.length ≤ 16000000)) >>= fun _ => k a) (aAll R) := fun S1 H1 s g ps k z hm Q q =>
  h S1 H1 s g ps _ z hm _ fun a vs S2 H2 s2 g2 p2 r hm2 => by
    obtain ⟨_, e, hm2⟩ := run_of_lft hm2
    have hl := grd_of e
    have hr : All R S2 a vs := r
    refine ⟨by rw [← hr.len, sizeLine_eq]; omega, fun x hx => ?_⟩
    have g3 : Gm p.M S2 H2 S2 (upd H2 x (.lst vs)) := Gm.own g2.i hx
    have n1 : H1 x = none := by
      cases e : H1 x with
      | none => rfl
      | some u => obtain ⟨u', e'⟩ := g2.t x u e; rw [hx] at e'; cases e'
    exact q a x vs S2 _ s2 (g2.tr g3) (p2.go (Gm.own g2.i hx)) n1 upd_same (g2.i.no hx) (new_nM p2 hx) r hm2

/-! ### tests, choices -/
theorem t_B {m : (Bool → μ β) → μ β} (h : Ev p te σ S H m rB) : EvT p (tB te) σ S H m := fun S1 H1 s g ps k z hm Q q =>
  h S1 H1 s g ps k z hm _ fun b v S2 H2 s2 g2 p2 r hm2 => ⟨b, r, q b S2 H2 s2 g2 p2 hm2⟩
theorem t_Test {m : (Bool → μ β) → μ β} (h : Ev p te σ S H m rB) : EvT p (tTest te) σ S H m := fun S1 H1 s g ps k z hm Q q =>
  h S1 H1 s g ps k z hm _ fun b v S2 H2 s2 g2 p2 r hm2 => ⟨b, r, q b S2 H2 s2 g2 p2 hm2⟩
theorem EvT.go {m : (Bool → μ β) → μ β} {S1 H1 : Hp} (h : EvT p tt σ S H m) (g : Gm p.M S H S1 H1) : EvT p tt σ S1 H1 m := fun S2 H2 s g2 ps => h S2 H2 s (g.tr g2) ps
theorem t_and {tu : TT} {m : (Bool → μ β) → μ β} {m' : (Bool → μ Bool) → μ Bool} (h : EvT p tt σ S H m) (h' : EvT p tu σ S H m') : EvT p (tAnd tt tu) σ S H (fun k => m fun a => (if a = true then m' pure else pure false) >>= k) := fun S1 H1 s g ps k z hm Q q =>
  h S1 H1 s g ps _ z hm _ fun b S2 H2 s2 g2 p2 hm2 => by
    obtain ⟨c, s3, e1, e2⟩ := run_of_bind hm2
    cases b with
    | true => exact iteT (h' S2 H2 s2 (g.tr g2) p2 pure (c, s3) (by simpa using e1) Q fun d S3 H3 s4 g3 p3 hm3 => by cases run_of_pure hm3; exact q _ S3 H3 _ (g2.tr g3) p3 e2)
    | false => exact iteF (by cases run_of_pure (show Mir.run (pure false : μ Bool) s2 = some (c, s3) by simpa using e1); exact q _ S2 H2 _ g2 p2 e2)
theorem t_or {tu : TT} {m : (Bool → μ β) → μ β} {m' : (Bool → μ Bool) → μ Bool} (h : EvT p tt σ S H m) (h' : EvT p tu σ S H m') : EvT p (tOr tt tu) σ S H (fun k => m fun a => (if a = true then pure true else m' pure) >>= k) := fun S1 H1 s g ps k z hm Q q =>
  h S1 H1 s g ps _ z hm _ fun b S2 H2 s2 g2 p2 hm2 => by
    obtain ⟨c, s3, e1, e2⟩ := run_of_bind hm2
    cases b with
    | true => exact iteT (by cases run_of_pure (show Mir.run (pure true : μ Bool) s2 = some (c, s3) by simpa using e1); exact q _ S2 H2 _ g2 p2 e2)
    | false => exact iteF (h' S2 H2 s2 (g.tr g2) p2 pure (c, s3) (by simpa using e1) Q fun d S3 H3 s4 g3 p3 hm3 => by cases run_of_pure hm3; exact q _ S3 H3 _ (g2.tr g3) p3 e2)
/-- the second one is asked without a condition -/
theorem t_andT {tu : TT} {m : (Bool → μ β) → μ β} {c : Bool} (h : EvT p tt σ S H m) (h' : EvT (μ := μ) (β := β) p tu σ S H (fun k => k c)) : EvT p (tAnd tt tu) σ S H (fun k => m fun a => k (a && c)) := fun S1 H1 s g ps k z hm Q q =>
  h S1 H1 s g ps _ z hm _ fun b S2 H2 s2 g2 p2 hm2 => by
    cases b with
    | true => exact iteT (h' S2 H2 s2 (g.tr g2) p2 k z (by simpa using hm2) Q fun d S3 H3 s3 g3 p3 hm3 => q d S3 H3 s3 (g2.tr g3) p3 hm3)
    | false => exact iteF (q false S2 H2 s2 g2 p2 (by simpa using hm2))
theorem t_orT {tu : TT} {m : (Bool → μ β) → μ β} {c : Bool} (h : EvT p tt σ S H m) (h' : EvT (μ := μ) (β := β) p tu σ S H (fun k => k c)) : EvT p (tOr tt tu) σ S H (fun k => m fun a => k (a || c)) := fun S1 H1 s g ps k z hm Q q =>
  h S1 H1 s g ps _ z hm _ fun b S2 H2 s2 g2 p2 hm2 => by
    cases b with
    | true => exact iteT (q true S2 H2 s2 g2 p2 (by simpa using hm2))
    | false => exact iteF (h' S2 H2 s2 (g.tr g2) p2 k z (by simpa using hm2) Q fun d S3 H3 s3 g3 p3 hm3 => q d S3 H3 s3 (g2.tr g3) p3 hm3)
theorem t_not {m : (Bool → μ β) → μ β} (h : EvT p tt σ S H m) : EvT p (tNot tt) σ S H (fun k => m fun a => k (!a)) := fun S1 H1 s g ps k z hm Q q =>
  h S1 H1 s g ps _ z hm _ fun b S2 H2 s2 g2 p2 hm2 => q (!b) S2 H2 s2 g2 p2 hm2
theorem e_and {m : (Bool → μ β) → μ β} {m' : (Bool → μ Bool) → μ Bool} (h : Ev p ta σ S H m rB) (h' : Ev p tb σ S H m' rB) : Ev p (tAndV ta tb) σ S H (fun k => m fun a => (if a = true then m' pure else pure false) >>= k) rB := fun S1 H1 s g ps k z hm Q q =>
  h S1 H1 s g ps _ z hm _ fun b v S2 H2 s2 g2 p2 r hm2 => ⟨b, r, by
    obtain ⟨c, s3, e1, e2⟩ := run_of_bind hm2
    cases b with
    | true => exact iteT (h' S2 H2 s2 (g.tr g2) p2 pure (c, s3) (by simpa using e1) Q fun d u S3 H3 s4 g3 p3 r3 hm3 => by cases run_of_pure hm3; exact q _ u S3 H3 _ (g2.tr g3) p3 r3 e2)
    | false => exact iteF (by cases run_of_pure (show Mir.run (pure false : μ Bool) s2 = some (c, s3) by simpa using e1); exact q _ _ S2 H2 _ g2 p2 rfl e2)⟩
theorem e_or {m : (Bool → μ β) → μ β} {m' : (Bool → μ Bool) → μ Bool} (h : Ev p ta σ S H m rB) (h' : Ev p tb σ S H m' rB) : Ev p (tOrV ta tb) σ S H (fun k => m fun a => (if a = true then pure true else m' pure) >>= k) rB := fun S1 H1 s g ps k z hm Q q =>
  h S1 H1 s g ps _ z hm _ fun b v S2 H2 s2 g2 p2 r hm2 => ⟨b, r, by
    obtain ⟨c, s3, e1, e2⟩ := run_of_bind hm2
    cases b with
    | true => exact iteT (by cases run_of_pure (show Mir.run (pure true : μ Bool) s2 = some (c, s3) by simpa using e1); exact q _ _ S2 H2 _ g2 p2 rfl e2)
    | false => exact iteF (h' S2 H2 s2 (g.tr g2) p2 pure (c, s3) (by simpa using e1) Q fun d u S3 H3 s4 g3 p3 r3 hm3 => by cases run_of_pure hm3; exact q _ u S3 H3 _ (g2.tr g3) p3 r3 e2)⟩
theorem e_andT {m : (Bool → μ β) → μ β} {c : Bool} (h : Ev p ta σ S H m rB) (h' : Ev (μ := μ) (β := β) p tb σ S H (fun k => k c) rB) : Ev p (tAndV ta tb) σ S H (fun k => m fun a => k (a && c)) rB := fun S1 H1 s g ps k z hm Q q =>
  h S1 H1 s g ps _ z hm _ fun b v S2 H2 s2 g2 p2 r hm2 => ⟨b, r, by
    cases b with
    | true => exact iteT (h' S2 H2 s2 (g.tr g2) p2 k z (by simpa using hm2) Q fun d u S3 H3 s3 g3 p3 r3 hm3 => q d u S3 H3 s3 (g2.tr g3) p3 r3 hm3)
    | false => exact iteF (q false _ S2 H2 s2 g2 p2 rfl (by simpa using hm2))⟩
theorem e_orT {m : (Bool → μ β) → μ β} {c : Bool} (h : Ev p ta σ S H m rB) (h' : Ev (μ := μ) (β := β) p tb σ S H (fun k => k c) rB) : Ev p (tOrV ta tb) σ S H (fun k => m fun a => k (a || c)) rB := fun S1 H1 s g ps k z hm Q q =>
  h S1 H1 s g ps _ z hm _ fun b v S2 H2 s2 g2 p2 r hm2 => ⟨b, r, by
    cases b with
    | true => exact iteT (q true _ S2 H2 s2 g2 p2 rfl (by simpa using hm2))
    | false => exact iteF (h' S2 H2 s2 (g.tr g2) p2 k z (by simpa using hm2) Q fun d u S3 H3 s3 g3 p3 r3 hm3 => q d u S3 H3 s3 (g2.tr g3) p3 r3 hm3)⟩
theorem e_not {m : (Bool → μ β) → μ β} (h : Ev p ta σ S H m rB) : Ev p (tNotV ta) σ S H (fun k => m fun a => k (!a)) rB := fun S1 H1 s g ps k z hm Q q =>
  h S1 H1 s g ps _ z hm _ fun b v S2 H2 s2 g2 p2 r hm2 => ⟨b, r, q _ _ S2 H2 s2 g2 p2 rfl hm2⟩
/-- a if t else b: the ways meet again -/
theorem e_if {mt : (Bool → μ β) → μ β} {ma mb : (α → μ α) → μ α} {R : Rp α} (h : EvT p tt σ S H mt) (h1 : Ev p ta σ S H ma R) (h2 : Ev p tb σ S H mb R) :
    Ev p (tIf tt ta tb) σ S H (fun k => mt fun b => (if b = true then ma pure else mb pure) >>= k) R := fun S1 H1 s g ps k z hm Q q =>
  h S1 H1 s g ps _ z hm _ fun b S2 H2 s2 g2 p2 hm2 => by
    obtain ⟨a, s3, e1, e2⟩ := run_of_bind hm2
    cases b with
    | true => exact iteT (h1 S2 H2 s2 (g.tr g2) p2 pure (a, s3) (by simpa using e1) Q fun c u S3 H3 s4 g3 p3 r3 hm3 => by cases run_of_pure hm3; exact q _ u S3 H3 _ (g2.tr g3) p3 r3 e2)
    | false => exact iteF (h2 S2 H2 s2 (g.tr g2) p2 pure (a, s3) (by simpa using e1) Q fun c u S3 H3 s4 g3 p3 r3 hm3 => by cases run_of_pure hm3; exact q _ u S3 H3 _ (g2.tr g3) p3 r3 e2)
/-- both ways are asked without a condition -/
theorem e_ifT {mt : (Bool → μ β) → μ β} {x y : α} {R : Rp α} (h : EvT p tt σ S H mt) (h1 : Ev (μ := μ) (β := β) p ta σ S H (fun k => k x) R) (h2 : Ev (μ := μ) (β := β) p tb σ S H (fun k => k y) R) :
    Ev p (tIf tt ta tb) σ S H (fun k => mt fun b => k (if b = true then x else y)) R := fun S1 H1 s g ps k z hm Q q =>
  h S1 H1 s g ps _ z hm _ fun b S2 H2 s2 g2 p2 hm2 => by
    cases b with
    | true => exact iteT (h1 S2 H2 s2 (g.tr g2) p2 k z (by simpa using hm2) Q fun c u S3 H3 s4 g3 p3 r3 hm3 => q _ u S3 H3 _ (g2.tr g3) p3 r3 hm3)
    | false => exact iteF (h2 S2 H2 s2 (g.tr g2) p2 k z (by simpa using hm2) Q fun c u S3 H3 s4 g3 p3 r3 hm3 => q _ u S3 H3 _ (g2.tr g3) p3 r3 hm3)
theorem l_if {mt : (Bool → μ β) → μ β} {ma mb : (α → μ α) → μ α} {A : Rq α} (h : EvT p tt σ S H mt) (h1 : EvL p ta σ S H ma A) (h2 : EvL p tb σ S H mb A) :
    EvL p (tIf tt ta tb) σ S H (fun k => mt fun b => (if b = true then ma pure else mb pure) >>= k) A := fun S1 H1 s g ps k z hm Q q =>
  h S1 H1 s g ps _ z hm _ fun b S2 H2 s2 g2 p2 hm2 => by
    obtain ⟨a, s3, e1, e2⟩ := run_of_bind hm2
    have back : ∀ {x : Addr}, H2 x = none → H1 x = none := fun {x} hx => by
      cases e : H1 x with
      | none => rfl
      | some u => obtain ⟨u', e'⟩ := g2.t x u e; rw [hx] at e'; cases e'
    cases b with
    | true => exact iteT (h1 S2 H2 s2 (g.tr g2) p2 pure (a, s3) (by simpa using e1) Q fun c x vs S3 H3 s4 g3 p3 n1 e3 n3 m3 r3 hm3 => by cases run_of_pure hm3; exact q _ x vs S3 H3 _ (g2.tr g3) p3 (back n1) e3 n3 m3 r3 e2)
    | false => exact iteF (h2 S2 H2 s2 (g.tr g2) p2 pure (a, s3) (by simpa using e1) Q fun c x vs S3 H3 s4 g3 p3 n1 e3 n3 m3 r3 hm3 => by cases run_of_pure hm3; exact q _ x vs S3 H3 _ (g2.tr g3) p3 (back n1) e3 n3 m3 r3 e2)
end
end Wk
set_option Elab.async false
set_option maxRecDepth 100000
set_option maxHeartbeats 4000000
set_option linter.all false
/-! W2: targets, statements, loops, comprehensions -/
namespace Wk
open PySem L2
open PyProof.Rows hiding St
section
variable {μ : Type → Type} {τ : Type} [Mir μ τ] {α β γ δ ζ : Type} {p : Pt τ} {σ : St} {S H S0 H0 : Hp} {te ta tb : TE} {tt : TT} {L : List (Addr × HO)} {K : PySem.W.Frag} {tz tu tw : TS} {D : Ends} {s : τ} {z : β × τ}

/-! ### targets: what an item is, how the slots then stand -/
def Tg (g : TG) (R : Rp α) (P : α → St → St → Hp → Prop) : Prop := ∀ a v σ S H (Q : St → Hp → Prop), Ex S H → R a v S → (∀ σ', P a σ σ' S → Q σ' H) → g v σ H Q
def pN (j : Nat) (R : Rp α) : α → St → St → Hp → Prop := fun a σ σ' S => ∃ v, σ' = σ.set j (some v) ∧ R a v S
theorem g_nm {j : Nat} {R : Rp α} : Tg (gName j) R (pN j R) := fun _ v _ _ _ _ _ r q => q _ ⟨v, rfl, r⟩
/-- the items of a tuple, one after another -/
def TgQ (n : Nat) (g : TGs) (A : Rq α) (P : α → St → St → Hp → Prop) : Prop := ∀ a vs σ S H (Q : St → Hp → Prop), Ex S H → A a vs S → vs.length = n ∧ ((∀ σ', P a σ σ' S → Q σ' H) → g vs σ H Q)
theorem gq_one {g : TG} {R : Rp α} {P : α → St → St → Hp → Prop} (h : Tg g R P) : TgQ 1 (gCons g gNil) (aOne R) P := fun a vs σ S H Q e ⟨v, e1, r⟩ => by
  subst e1
  exact ⟨rfl, fun q => ⟨v, [], rfl, h a v σ S H _ e r fun σ' p' => ⟨rfl, q σ' p'⟩⟩⟩
theorem gq_cons {n : Nat} {g : TG} {gs : TGs} {R : Rp α} {A : Rq γ} {P : α → St → St → Hp → Prop} {P' : γ → St → St → Hp → Prop} (h : Tg g R P) (h' : TgQ n gs A P') :
    TgQ (n + 1) (gCons g gs) (aCons R A) (fun x σ σ2 S => ∃ σ1, P x.1 σ σ1 S ∧ P' x.2 σ1 σ2 S) := fun a vs σ S H Q e ⟨v, r, e1, h1, h2⟩ => by
  subst e1
  refine ⟨congrArg Nat.succ (h' a.2 r σ S H Q e h2).1, fun q => ⟨v, r, rfl, h a.1 v σ S H _ e h1 fun σ1 p1 => (h' a.2 r σ1 S H Q e h2).2 fun σ2 p2 => q σ2 ⟨σ1, p1, p2⟩⟩⟩
theorem g_tp {n : Nat} {gs : TGs} {A : Rq α} {P : α → St → St → Hp → Prop} (h : TgQ n gs A P) : Tg (gTup K n gs) (rT K A) P := fun a v σ S H Q e ⟨x, vs, e1, h1, h2⟩ q => by
  subst e1
  exact ⟨x, vs, rfl, sqT_ex e h1, (h a vs σ S H Q e h2).1, (h a vs σ S H Q e h2).2 q⟩

/-- what the slots are told stays told -/
def PMo (P : α → St → St → Hp → Prop) : Prop := ∀ x σ σ' S1 S2, Ex S1 S2 → P x σ σ' S1 → P x σ σ' S2
theorem pm_nm {j : Nat} {R : Rp α} [Mo R] : PMo (pN j R) := fun _ _ _ _ _ e ⟨v, h, r⟩ => ⟨v, h, Mo.mo e r⟩
theorem pm_cons {P : α → St → St → Hp → Prop} {P' : γ → St → St → Hp → Prop} (h : PMo P) (h' : PMo P') : PMo (fun (x : α × γ) σ σ2 S => ∃ σ1, P x.1 σ σ1 S ∧ P' x.2 σ1 σ2 S) :=
  fun _ _ _ _ _ e ⟨σ1, a, b⟩ => ⟨σ1, h _ _ _ _ _ e a, h' _ _ _ _ _ e b⟩

/-! ### statements -/
theorem nx_done (h : tz D σ H) : tNext { D with nx := tz D } σ H := h
theorem q_set {i : Nat} {m : (α → μ β) → μ β} {R : Rp α} {k : α → μ β} (σ' : V → St) (hσ : ∀ v, σ.set i (some v) = σ' v) (w : Wd p S0 H0 S H L) (ps : PotAt p s S H) (h : Ev p te σ S H m R) (hm : Mir.run (m fun a => bnd a k) s = some z)
    (nx : ∀ a v S1 H1 s1, Wd p S0 H0 S1 H1 L → PotAt p s1 S1 H1 → Gm p.M S H S1 H1 → R a v S1 → Mir.run (k a) s1 = some z → tz D (σ' v) H1) : tSeq (tAsg te (gName i)) tz D σ H :=
  h S H s (Gm.rf w.i) ps _ z hm _ fun a v S1 H1 s1 g p1 r hm1 => by
    have q := nx a v S1 H1 s1 (w.go g) p1 g r hm1
    rw [← hσ v] at q
    exact q
theorem q_setL {i : Nat} {m : (α → μ β) → μ β} {A : Rq α} {k : α → μ β} (σ' : V → St) (hσ : ∀ v, σ.set i (some v) = σ' v) (w : Wd p S0 H0 S H L) (ps : PotAt p s S H) (h : EvL p te σ S H m A) (hm : Mir.run (m fun a => bnd a k) s = some z)
    (nx : ∀ a q vs S1 H1 s1, Wd p S0 H0 S1 H1 ((q, .lst vs) :: L) → PotAt p s1 S1 H1 → Gm p.M S H S1 H1 → A a vs S1 → Mir.run (k a) s1 = some z → tz D (σ' (.ref q)) H1) : tSeq (tAsg te (gName i)) tz D σ H :=
  h S H s (Gm.rf w.i) ps _ z hm _ fun a q vs S1 H1 s1 g p1 n e sn m r hm1 => by
    have q := nx a q vs S1 H1 s1 (w.add g n e sn m) p1 g r hm1
    rw [← hσ] at q
    exact q
/-- some expression is asked, what is wanted of it goes on -/
theorem x_ev {m : (α → μ β) → μ β} {R : Rp α} {k : α → μ β} {Q : VK} (w : Wd p S0 H0 S H L) (ps : PotAt p s S H) (h : Ev p te σ S H m R) (hm : Mir.run (m fun a => bnd a k) s = some z)
    (nx : ∀ a v S1 H1 s1, Wd p S0 H0 S1 H1 L → PotAt p s1 S1 H1 → Gm p.M S H S1 H1 → R a v S1 → Mir.run (k a) s1 = some z → Q v H1) : te σ H Q :=
  h S H s (Gm.rf w.i) ps _ z hm _ fun a v S1 H1 s1 g p1 r hm1 => nx a v S1 H1 s1 (w.go g) p1 g r hm1
theorem x_evL {m : (α → μ β) → μ β} {A : Rq α} {k : α → μ β} {Q : VK} (w : Wd p S0 H0 S H L) (ps : PotAt p s S H) (h : EvL p te σ S H m A) (hm : Mir.run (m fun a => bnd a k) s = some z)
    (nx : ∀ a q vs S1 H1 s1, Wd p S0 H0 S1 H1 ((q, .lst vs) :: L) → PotAt p s1 S1 H1 → Gm p.M S H S1 H1 → A a vs S1 → Mir.run (k a) s1 = some z → Q (.ref q) H1) : te σ H Q :=
  h S H s (Gm.rf w.i) ps _ z hm _ fun a q vs S1 H1 s1 g p1 n e sn m r hm1 => nx a q vs S1 H1 s1 (w.add g n e sn m) p1 g r hm1
theorem par_go {i j : Nat} {t1 t2 : TE} (h : t1 σ H fun x H1 => t2 σ H1 fun y H2 => ∃ v w, [x, y] = [v, w] ∧ tz D ((σ.set i (some v)).set j (some w)) H2) : tSeq (tPar i j (tCons t1 (tCons t2 tNil))) tz D σ H := h
theorem par_end {i j : Nat} {x y : V} (σ' : St) (hσ : (σ.set i (some x)).set j (some y) = σ') (h : tz D σ' H) : ∃ v w, [x, y] = [v, w] ∧ tz D ((σ.set i (some v)).set j (some w)) H := ⟨x, y, rfl, by rw [hσ]; exact h⟩
theorem par3_go {i j l : Nat} {t1 t2 t3 : TE} (h : t1 σ H fun x H1 => t2 σ H1 fun y H2 => t3 σ H2 fun w H3 => ∃ a b c, [x, y, w] = [a, b, c] ∧ tz D (((σ.set i (some a)).set j (some b)).set l (some c)) H3) : tSeq (tPar3 i j l (tCons t1 (tCons t2 (tCons t3 tNil)))) tz D σ H := h
theorem par3_end {i j l : Nat} {x y w : V} (σ' : St) (hσ : ((σ.set i (some x)).set j (some y)).set l (some w) = σ') (h : tz D σ' H) : ∃ a b c, [x, y, w] = [a, b, c] ∧ tz D (((σ.set i (some a)).set j (some b)).set l (some c)) H := ⟨x, y, w, rfl, by rw [hσ]; exact h⟩
/-- a, b, .. = x, y, ..: the tuple is made -/
def gSeq : List Nat → TGs
  | [] => gNil
  | i :: is => gCons (gName i) (gSeq is)
def setAll : St → List Nat → List V → St
  | σ, i :: is, v :: vs => setAll (σ.set i (some v)) is vs
  | σ, _, _ => σ
theorem gSeq_go {Q : St → Hp → Prop} : ∀ (is : List Nat) (vs : List V) (σ : St) (H : Hp), is.length = vs.length → Q (setAll σ is vs) H → gSeq is vs σ H Q
  | [], [], σ, H, _, h => ⟨rfl, h⟩
  | i :: is, v :: vs, σ, H, e, h => ⟨v, vs, rfl, gSeq_go is vs (σ.set i (some v)) H (by simpa using e) h⟩
  | [], _ :: _, _, _, e, _ => by simp at e
  | _ :: _, [], _, _, e, _ => by simp at e
theorem tup_end {is : List Nat} {vs : List V} {Q : St → Hp → Prop} (σ' : St) (w : Wd p S0 H0 S H L) (ps : PotAt p s S H) (hl : is.length = vs.length) (hz : vs.length ≤ 1000) (hσ : setAll σ is vs = σ')
    (nx : ∀ S1 H1, Wd p S0 H0 S1 H1 L → PotAt p s S1 H1 → Gm p.M S H S1 H1 → Q σ' H1) :
    vs.length ≤ sizeLine ∧ ∀ x, H x = none → gTup K is.length (gSeq is) (.ref x) σ (upd H x (.tup vs)) Q :=
  ⟨Nat.le_trans hz (by decide), fun x hx => ⟨x, vs, rfl, .of upd_same, hl.symm, gSeq_go is vs σ _ hl (by
    rw [hσ]
    exact nx (upd S x (.tup vs)) _ (w.go (Gm.new w.i hx)) (ps.go (Gm.new w.i hx)) (Gm.new w.i hx))⟩⟩
/-- a, b = e -/
theorem q_unp {g : TG} {m : (α → μ β) → μ β} {R : Rp α} {P : α → St → St → Hp → Prop} {k : α → μ β} (w : Wd p S0 H0 S H L) (ps : PotAt p s S H) (h : Ev p te σ S H m R) (hg : Tg g R P) (hm : Mir.run (m fun a => bnd a k) s = some z)
    (nx : ∀ a σ' S1 H1 s1, Wd p S0 H0 S1 H1 L → PotAt p s1 S1 H1 → Gm p.M S H S1 H1 → P a σ σ' S1 → Mir.run (k a) s1 = some z → tz D σ' H1) : tSeq (tAsg te g) tz D σ H :=
  h S H s (Gm.rf w.i) ps _ z hm _ fun a v S1 H1 s1 g1 p1 r hm1 => hg a v σ S1 H1 _ g1.i r fun σ' hp => nx a σ' S1 H1 s1 (w.go g1) p1 g1 hp hm1
/-- a, b = x, y of two plain local names -/
theorem q_par {i j : Nat} {ta : TA} {m : (α × γ → μ β) → μ β} {R : Rp α} {R' : Rp γ} {k : α → γ → μ β} (w : Wd p S0 H0 S H L) (ps : PotAt p s S H) (h : EvA p ta σ S H m (aCons R (aOne R'))) (hm : Mir.run (m fun a => bnd a.1 fun x => bnd a.2 fun y => k x y) s = some z)
    (nx : ∀ a b v u S1 H1 s1, Wd p S0 H0 S1 H1 L → PotAt p s1 S1 H1 → Gm p.M S H S1 H1 → R a v S1 → R' b u S1 → Mir.run (k a b) s1 = some z → tz D ((σ.set i (some v)).set j (some u)) H1) : tSeq (tPar i j ta) tz D σ H :=
  h S H s (Gm.rf w.i) ps _ z hm _ fun a vs S1 H1 s1 g p1 r hm1 => by
    obtain ⟨v, r, e1, r1, u, e2, r2⟩ := r
    subst e2
    subst e1
    exact ⟨v, u, rfl, nx a.1 a.2 v u S1 H1 s1 (w.go g) p1 g r1 r2 hm1⟩
theorem q_drop {m : (α → μ β) → μ β} {R : Rp α} {k : μ β} (w : Wd p S0 H0 S H L) (ps : PotAt p s S H) (h : Ev p te σ S H m R) (hm : Mir.run (m fun _ => k) s = some z)
    (nx : ∀ S1 H1 s1, Wd p S0 H0 S1 H1 L → PotAt p s1 S1 H1 → Gm p.M S H S1 H1 → Mir.run k s1 = some z → tz D σ H1) : tSeq (tDrop te) tz D σ H :=
  h S H s (Gm.rf w.i) ps _ z hm _ fun a v S1 H1 s1 g p1 r hm1 => nx S1 H1 s1 (w.go g) p1 g hm1
theorem q_ret {m : (α → μ β) → μ β} {R : Rp α} {k : α → μ β} (w : Wd p S0 H0 S H L) (ps : PotAt p s S H) (h : Ev p te σ S H m R) (hm : Mir.run (m fun a => bnd a k) s = some z)
    (nx : ∀ a v S1 H1 s1, Wd p S0 H0 S1 H1 L → PotAt p s1 S1 H1 → Gm p.M S H S1 H1 → R a v S1 → Mir.run (k a) s1 = some z → D.rt v H1) : tSeq (tRet te) tz D σ H :=
  h S H s (Gm.rf w.i) ps _ z hm _ fun a v S1 H1 s1 g p1 r hm1 => nx a v S1 H1 s1 (w.go g) p1 g r hm1
/-- a new list is handed back -/
theorem q_retL {m : (α → μ β) → μ β} {A : Rq α} {k : α → μ β} (w : Wd p S0 H0 S H L) (ps : PotAt p s S H) (h : EvL p te σ S H m A) (hm : Mir.run (m fun a => bnd a k) s = some z)
    (nx : ∀ a q vs S1 H1 s1, Wd p S0 H0 S1 H1 ((q, .lst vs) :: L) → PotAt p s1 S1 H1 → Gm p.M S H S1 H1 → A a vs S1 → Mir.run (k a) s1 = some z → D.rt (.ref q) H1) : tSeq (tRet te) tz D σ H :=
  h S H s (Gm.rf w.i) ps _ z hm _ fun a q vs S1 H1 s1 g p1 n e sn m r hm1 => nx a q vs S1 H1 s1 (w.add g n e sn m) p1 g r hm1
theorem q_retO {i : Nat} {q : Addr} {a : α} {k : α → μ β} (e : σ[i]? = some (some (.ref q))) (hm : Mir.run (bnd a k) s = some z)
    (nx : Mir.run (k a) s = some z → D.rt (.ref q) H) : tSeq (tRet (tVar i)) tz D σ H := ⟨.ref q, e, nx hm⟩
theorem q_retN (h : D.rt .non H) : tSeq tRetN tz D σ H := h
/-- if: each way goes on by itself -/
theorem q_if {m : (Bool → μ β) → μ β} {A B : μ β} (w : Wd p S0 H0 S H L) (ps : PotAt p s S H) (h : EvT p tt σ S H m) (hm : Mir.run (m fun b => if b = true then A else B) s = some z)
    (h1 : ∀ S1 H1 s1, Wd p S0 H0 S1 H1 L → PotAt p s1 S1 H1 → Gm p.M S H S1 H1 → Mir.run A s1 = some z → tu { D with nx := tz D } σ H1)
    (h2 : ∀ S1 H1 s1, Wd p S0 H0 S1 H1 L → PotAt p s1 S1 H1 → Gm p.M S H S1 H1 → Mir.run B s1 = some z → tw { D with nx := tz D } σ H1) : tSeq (tIfS tt tu tw) tz D σ H :=
  h S H s (Gm.rf w.i) ps _ z hm _ fun b S1 H1 s1 g p1 hm1 => by
    cases b with
    | true => exact iteT (h1 S1 H1 s1 (w.go g) p1 g (by simpa using hm1))
    | false => exact iteF (h2 S1 H1 s1 (w.go g) p1 g (by simpa using hm1))
/-- if: the ways meet again with what they changed -/
theorem q_ifj {m : (Bool → μ β) → μ β} {A B : μ ζ} {k : ζ → μ β} (Iv : ζ → St → Hp → Hp → τ → Prop) (w : Wd p S0 H0 S H L) (ps : PotAt p s S H) (h : EvT p tt σ S H m) (hm : Mir.run (m fun b => (if b = true then A else B) >>= k) s = some z)
    (h1 : ∀ S1 H1 s1 st s2 (D' : Ends), Wd p S0 H0 S1 H1 L → PotAt p s1 S1 H1 → Gm p.M S H S1 H1 → Mir.run A s1 = some (st, s2) → (∀ σ' S' H', Iv st σ' S' H' s2 → D'.nx σ' H') → tu D' σ H1)
    (h2 : ∀ S1 H1 s1 st s2 (D' : Ends), Wd p S0 H0 S1 H1 L → PotAt p s1 S1 H1 → Gm p.M S H S1 H1 → Mir.run B s1 = some (st, s2) → (∀ σ' S' H', Iv st σ' S' H' s2 → D'.nx σ' H') → tw D' σ H1)
    (nx : ∀ st σ' S1 H1 s1, Iv st σ' S1 H1 s1 → Mir.run (k st) s1 = some z → tz D σ' H1) : tSeq (tIfS tt tu tw) tz D σ H :=
  h S H s (Gm.rf w.i) ps _ z hm _ fun b S1 H1 s1 g p1 hm1 => by
    obtain ⟨st, s2, e1, e2⟩ := run_of_bind hm1
    cases b with
    | true => exact iteT (h1 S1 H1 s1 st s2 _ (w.go g) p1 g (by simpa using e1) fun σ' S' H' iv => nx st σ' S' H' s2 iv e2)
    | false => exact iteF (h2 S1 H1 s1 st s2 _ (w.go g) p1 g (by simpa using e1) fun σ' S' H' iv => nx st σ' S' H' s2 iv e2)

theorem tup2_go {t1 t2 : TE} {g : TG} (h : t1 σ H fun x1 H1 => t2 σ H1 fun x2 H2 => [x1, x2].length ≤ sizeLine ∧ ∀ y, H2 y = none → g (.ref y) σ (upd H2 y (.tup [x1, x2])) (tz D)) : tSeq (tAsg (tTup (tCons t1 (tCons t2 tNil))) g) tz D σ H := h
theorem tup3_go {t1 t2 t3 : TE} {g : TG} (h : t1 σ H fun x1 H1 => t2 σ H1 fun x2 H2 => t3 σ H2 fun x3 H3 => [x1, x2, x3].length ≤ sizeLine ∧ ∀ y, H3 y = none → g (.ref y) σ (upd H3 y (.tup [x1, x2, x3])) (tz D)) : tSeq (tAsg (tTup (tCons t1 (tCons t2 (tCons t3 tNil)))) g) tz D σ H := h
theorem tup4_go {t1 t2 t3 t4 : TE} {g : TG} (h : t1 σ H fun x1 H1 => t2 σ H1 fun x2 H2 => t3 σ H2 fun x3 H3 => t4 σ H3 fun x4 H4 => [x1, x2, x3, x4].length ≤ sizeLine ∧ ∀ y, H4 y = none → g (.ref y) σ (upd H4 y (.tup [x1, x2, x3, x4])) (tz D)) : tSeq (tAsg (tTup (tCons t1 (tCons t2 (tCons t3 (tCons t4 tNil))))) g) tz D σ H := h
theorem tup5_go {t1 t2 t3 t4 t5 : TE} {g : TG} (h : t1 σ H fun x1 H1 => t2 σ H1 fun x2 H2 => t3 σ H2 fun x3 H3 => t4 σ H3 fun x4 H4 => t5 σ H4 fun x5 H5 => [x1, x2, x3, x4, x5].length ≤ sizeLine ∧ ∀ y, H5 y = none → g (.ref y) σ (upd H5 y (.tup [x1, x2, x3, x4, x5])) (tz D)) : tSeq (tAsg (tTup (tCons t1 (tCons t2 (tCons t3 (tCons t4 (tCons t5 tNil)))))) g) tz D σ H := h
theorem tup6_go {t1 t2 t3 t4 t5 t6 : TE} {g : TG} (h : t1 σ H fun x1 H1 => t2 σ H1 fun x2 H2 => t3 σ H2 fun x3 H3 => t4 σ H3 fun x4 H4 => t5 σ H4 fun x5 H5 => t6 σ H5 fun x6 H6 => [x1, x2, x3, x4, x5, x6].length ≤ sizeLine ∧ ∀ y, H6 y = none → g (.ref y) σ (upd H6 y (.tup [x1, x2, x3, x4, x5, x6])) (tz D)) : tSeq (tAsg (tTup (tCons t1 (tCons t2 (tCons t3 (tCons t4 (tCons t5 (tCons t6 tNil))))))) g) tz D σ H := h
theorem tup7_go {t1 t2 t3 t4 t5 t6 t7 : TE} {g : TG} (h : t1 σ H fun x1 H1 => t2 σ H1 fun x2 H2 => t3 σ H2 fun x3 H3 => t4 σ H3 fun x4 H4 => t5 σ H4 fun x5 H5 => t6 σ H5 fun x6 H6 => t7 σ H6 fun x7 H7 => [x1, x2, x3, x4, x5, x6, x7].length ≤ sizeLine ∧ ∀ y, H7 y = none → g (.ref y) σ (upd H7 y (.tup [x1, x2, x3, x4, x5, x6, x7])) (tz D)) : tSeq (tAsg (tTup (tCons t1 (tCons t2 (tCons t3 (tCons t4 (tCons t5 (tCons t6 (tCons t7 tNil)))))))) g) tz D σ H := h
theorem tup8_go {t1 t2 t3 t4 t5 t6 t7 t8 : TE} {g : TG} (h : t1 σ H fun x1 H1 => t2 σ H1 fun x2 H2 => t3 σ H2 fun x3 H3 => t4 σ H3 fun x4 H4 => t5 σ H4 fun x5 H5 => t6 σ H5 fun x6 H6 => t7 σ H6 fun x7 H7 => t8 σ H7 fun x8 H8 => [x1, x2, x3, x4, x5, x6, x7, x8].length ≤ sizeLine ∧ ∀ y, H8 y = none → g (.ref y) σ (upd H8 y (.tup [x1, x2, x3, x4, x5, x6, x7, x8])) (tz D)) : tSeq (tAsg (tTup (tCons t1 (tCons t2 (tCons t3 (tCons t4 (tCons t5 (tCons t6 (tCons t7 (tCons t8 tNil))))))))) g) tz D σ H := h

/-! ### lists of one's own are changed -/
theorem ty_own {x : Addr} {vs : List V} (h : H x = some (.lst vs)) : tyV K "list" (.ref x) H := .inl ⟨rfl, _, .of h⟩
theorem q_app {i j : Nat} {q : Addr} {vs : List V} {xs : List α} {m : (α → μ β) → μ β} {R : Rp α} [Mo R] {k : List α → μ β} (w : Wd p S0 H0 S H L) (ps : PotAt p s S H) (hj : L[j]? = some (q, .lst vs)) (e : σ[i]? = some (some (.ref q))) (ha : All R S xs vs) (h : Ev p te σ S H m R)
    (hm : Mir.run (m fun a => Mir.lft (grd (xs.length < 16000000)) >>= fun _ => bnd (xs ++ [a]) k) s = some z)
    (nx : ∀ ys us S1 H1 s1, Wd p S0 H0 S1 H1 (L.set j (q, .lst us)) → PotAt p s1 S1 H1 → Ex S S1 → All R S1 ys us → Mir.run (k ys) s1 = some z → tz D σ H1) : tSeq (tDrop (tBM K "list" rAppend (tVar i) (tCons te tNil))) tz D σ H :=
  ⟨.ref q, e, ty_own (w.at hj).1, h S H s (Gm.rf w.i) ps _ z hm _ fun a v S1 H1 s1 g p1 r hm1 => by
    obtain ⟨_, e1, hm1⟩ := run_of_lft hm1
    have hl := grd_of e1
    have w1 := w.go g
    refine ⟨q, vs, v, rfl, rfl, (w1.at hj).1, by rw [← ha.len, sizeLine_eq]; omega, ?_⟩
    exact nx (xs ++ [a]) (vs ++ [v]) S1 _ s1 (w1.put hj) (p1.put (w.nmAt hj)) g.s ((ha.mo g.s).app (.cons r .nil)) hm1⟩
theorem q_ext {i j : Nat} {q : Addr} {vs : List V} {xs : List α} {m : (List α → μ β) → μ β} {R : Rp α} [Mo R] {k : List α → μ β} (w : Wd p S0 H0 S H L) (ps : PotAt p s S H) (hj : L[j]? = some (q, .lst vs)) (e : σ[i]? = some (some (.ref q))) (ha : All R S xs vs) (h : EvL p te σ S H m (aAll R))
    (hm : Mir.run (m fun a => Mir.lft (grd (xs.length + a.length ≤ 16000000)) >>= fun _ => bnd (xs ++ a) k) s = some z)
    (nx : ∀ ys us S1 H1 s1, Wd p S0 H0 S1 H1 (L.set j (q, .lst us)) → PotAt p s1 S1 H1 → Ex S S1 → All R S1 ys us → Mir.run (k ys) s1 = some z → tz D σ H1) : tSeq (tDrop (tBM K "list" rExtend (tVar i) (tCons te tNil))) tz D σ H :=
  ⟨.ref q, e, ty_own (w.at hj).1, h S H s (Gm.rf w.i) ps _ z hm _ fun a x us S1 H1 s1 g p1 n1 e2 n2 m2 r hm1 => by
    obtain ⟨_, e1, hm1⟩ := run_of_lft hm1
    have hl := grd_of e1
    have w1 := w.go g
    have hr : All R S1 a us := r
    refine ⟨q, x, vs, us, rfl, rfl, (w1.at hj).1, e2, by rw [← ha.len, ← hr.len, sizeLine_eq]; omega, ?_⟩
    exact nx (xs ++ a) (vs ++ us) S1 _ s1 (w1.put hj) (p1.put (w.nmAt hj)) g.s ((ha.mo g.s).app hr) hm1⟩
/-- xs[i] = e -/
theorem q_put {i j : Nat} {q : Addr} {vs : List V} {xs : List α} {m : (α → μ β) → μ β} {mi : (Int → μ β) → μ β} {R : Rp α} [Mo R] {k : List α → μ β} (w : Wd p S0 H0 S H L) (ps : PotAt p s S H) (hj : L[j]? = some (q, .lst vs)) (e : σ[i]? = some (some (.ref q))) (ha : All R S xs vs) (h : Ev p te σ S H m R) (hi : Ev p ta σ S H mi rI)
    (hm : Mir.run (m fun a => mi fun n => Mir.lft (ixN xs.length n) >>= fun o => bnd (xs.set o a) k) s = some z)
    (nx : ∀ ys us S1 H1 s1, Wd p S0 H0 S1 H1 (L.set j (q, .lst us)) → PotAt p s1 S1 H1 → Ex S S1 → All R S1 ys us → Mir.run (k ys) s1 = some z → tz D σ H1) : tSeq (tAsg te (gSub (tVar i) ta rSetL)) tz D σ H :=
  h S H s (Gm.rf w.i) ps _ z hm _ fun a v S1 H1 s1 g p1 r hm1 => ⟨.ref q, e, hi S1 H1 s1 g p1 _ z hm1 _ fun n u S2 H2 s2 g2 p2 r2 hm2 => by
    obtain ⟨o, e1, hm2⟩ := run_of_lft hm2
    have w2 := (w.go g).go g2
    cases (show u = .int n from r2)
    refine ⟨q, vs, n, o, rfl, rfl, (w2.at hj).1, by rw [← ha.len]; exact e1, ?_⟩
    exact nx (xs.set o a) (vs.set o v) S2 _ s2 (w2.put hj) (p2.put (w.nmAt hj)) (g.s.tr g2.s) ((ha.mo (g.s.tr g2.s)).set (Mo.mo g2.s r) o) hm2⟩

/-! ### while -/
def whS : Nat → (ζ → (Bool → μ ζ) → μ ζ) → (ζ → μ ζ) → ζ → μ ζ
  | 0, _, _, _ => Mir.lft none
  | n + 1, c, b, st => c st fun t => if t = true then b st >>= whS n c b else pure st
inductive Ctl (ρ ζ : Type) where
  | go (s : ζ) | brk (s : ζ) | ret (r : ρ)
def aft {ρ β : Type} : Ctl ρ ζ → (ζ → β) → (ρ → β) → β
  | .go s, f, _ => f s
  | .brk s, f, _ => f s
  | .ret r, _, g => g r
def whC {ρ : Type} : Nat → (ζ → (Bool → μ (Ctl ρ ζ)) → μ (Ctl ρ ζ)) → (ζ → μ (Ctl ρ ζ)) → ζ → μ (Ctl ρ ζ)
  | 0, _, _, _ => Mir.lft none
  | n + 1, c, b, st => c st fun t => if t = true then b st >>= fun o => match o with | .go st' => whC n c b st' | x => pure x else pure (.go st)
/-- more turns than any loop has -/
@[irreducible] def many : Nat := 10 ^ 40
theorem q_wh {n : Nat} {c : ζ → (Bool → μ ζ) → μ ζ} {b : ζ → μ ζ} {st0 : ζ} {k : ζ → μ β} (Iv : ζ → St → Hp → Hp → τ → Prop) (h0 : Iv st0 σ S H s) (hm : Mir.run (whS n c b st0 >>= k) s = some z)
    (hc : ∀ st σ1 S1 H1 s1, Iv st σ1 S1 H1 s1 → PotAt p s1 S1 H1 ∧ Ex S1 H1 ∧ EvT p tt σ1 S1 H1 (c st))
    (hg : ∀ st σ1 S1 H1 s1 S2 H2 s2, Iv st σ1 S1 H1 s1 → Gm p.M S1 H1 S2 H2 → PotAt p s2 S2 H2 → Iv st σ1 S2 H2 s2)
    (hb : ∀ st σ1 S1 H1 s1 st' s2 (D' : Ends), Iv st σ1 S1 H1 s1 → Mir.run (b st) s1 = some (st', s2) → (∀ σ' S' H', Iv st' σ' S' H' s2 → D'.nx σ' H' ∧ D'.ct σ' H') → tu D' σ1 H1)
    (nx : ∀ st σ1 S1 H1 s1, Iv st σ1 S1 H1 s1 → Mir.run (k st) s1 = some z → tz D σ1 H1) : tSeq (tWhile tt tu) tz D σ H := by
  obtain ⟨stf, sf, e1, e2⟩ := run_of_bind hm
  refine ⟨fun m σ H => ∃ st S s, Iv st σ S H s ∧ Mir.run (whS m c b st) s = some (stf, sf), ⟨n, st0, S, s, h0, e1⟩, ?_⟩
  rintro m σ1 H1 ⟨st, S1, s1, iv, e⟩
  obtain ⟨p1, x1, t1⟩ := hc st σ1 S1 H1 s1 iv
  cases m with
  | zero =>
    exfalso
    have e' : Mir.run (Mir.lft none : μ ζ) s1 = some (stf, sf) := e
    rw [Mir.run_lft] at e'
    cases e'
  | succ m =>
    refine t1 S1 H1 s1 (Gm.rf x1) p1 _ (stf, sf) e _ fun t S2 H2 s2 g2 p2 hm2 => ?_
    have iv2 := hg st σ1 S1 H1 s1 S2 H2 s2 iv g2 p2
    cases t with
    | true =>
      obtain ⟨st', s3, e3, e4⟩ := run_of_bind (by simpa using hm2)
      refine iteT ⟨fun σ' H' => ∃ S', Iv st' σ' S' H' s3, fun σ' H' ⟨S', i'⟩ => ⟨m, Nat.lt_succ_self m, st', S', s3, i', e4⟩, ?_⟩
      exact hb st σ1 S2 H2 s2 st' s3 _ iv2 e3 fun σ' S' H' i' => ⟨⟨S', i'⟩, ⟨S', i'⟩⟩
    | false =>
      have e3 : Mir.run (pure st : μ ζ) s2 = some (stf, sf) := by simpa using hm2
      cases run_of_pure e3
      exact iteF (nx _ σ1 S2 H2 _ iv2 e2)
/-- with ways out -/
theorem q_whC {ρ : Type} {n : Nat} {c : ζ → (Bool → μ (Ctl ρ ζ)) → μ (Ctl ρ ζ)} {b : ζ → μ (Ctl ρ ζ)} {st0 : ζ} {k : Ctl ρ ζ → μ β} (Iv : ζ → St → Hp → Hp → τ → Prop) (Rt : ρ → V → Hp → τ → Prop) (h0 : Iv st0 σ S H s) (hm : Mir.run (whC n c b st0 >>= k) s = some z)
    (hc : ∀ st σ1 S1 H1 s1, Iv st σ1 S1 H1 s1 → PotAt p s1 S1 H1 ∧ Ex S1 H1 ∧ EvT p tt σ1 S1 H1 (c st))
    (hg : ∀ st σ1 S1 H1 s1 S2 H2 s2, Iv st σ1 S1 H1 s1 → Gm p.M S1 H1 S2 H2 → PotAt p s2 S2 H2 → Iv st σ1 S2 H2 s2)
    (hb : ∀ st σ1 S1 H1 s1 o s2 (D' : Ends), Iv st σ1 S1 H1 s1 → Mir.run (b st) s1 = some (o, s2) →
      (∀ st' σ' S' H', o = .go st' → Iv st' σ' S' H' s2 → D'.nx σ' H' ∧ D'.ct σ' H') → (∀ st' σ' S' H', o = .brk st' → Iv st' σ' S' H' s2 → D'.bk σ' H') → (∀ r v H', o = .ret r → Rt r v H' s2 → D'.rt v H') → tu D' σ1 H1)
    (nx : ∀ st σ1 S1 H1 s1, Iv st σ1 S1 H1 s1 → Mir.run (k (.go st)) s1 = some z ∨ Mir.run (k (.brk st)) s1 = some z → tz D σ1 H1)
    (rt : ∀ r v H1 s1, Rt r v H1 s1 → Mir.run (k (.ret r)) s1 = some z → D.rt v H1) : tSeq (tWhile tt tu) tz D σ H := by
  obtain ⟨of, sf, e1, e2⟩ := run_of_bind hm
  refine ⟨fun m σ H => ∃ st S s, Iv st σ S H s ∧ Mir.run (whC m c b st) s = some (of, sf), ⟨n, st0, S, s, h0, e1⟩, ?_⟩
  rintro m σ1 H1 ⟨st, S1, s1, iv, e⟩
  obtain ⟨p1, x1, t1⟩ := hc st σ1 S1 H1 s1 iv
  cases m with
  | zero =>
    exfalso
    have e' : Mir.run (Mir.lft none : μ (Ctl ρ ζ)) s1 = some (of, sf) := e
    rw [Mir.run_lft] at e'
    cases e'
  | succ m =>
    refine t1 S1 H1 s1 (Gm.rf x1) p1 _ (of, sf) e _ fun t S2 H2 s2 g2 p2 hm2 => ?_
    have iv2 := hg st σ1 S1 H1 s1 S2 H2 s2 iv g2 p2
    cases t with
    | true =>
      obtain ⟨o, s3, e3, e4⟩ := run_of_bind (by simpa using hm2)
      cases o with
      | go st' =>
        have e4' : Mir.run (whC m c b st') s3 = some (of, sf) := e4
        refine iteT ⟨fun σ' H' => ∃ S', Iv st' σ' S' H' s3, fun σ' H' ⟨S', i'⟩ => ⟨m, Nat.lt_succ_self m, st', S', s3, i', e4'⟩, ?_⟩
        refine hb st σ1 S2 H2 s2 _ s3 _ iv2 e3 (fun st2 σ' S' H' q i' => ?_) (fun _ _ _ _ q _ => nomatch q) (fun _ _ _ q _ => nomatch q)
        cases q
        exact ⟨⟨S', i'⟩, ⟨S', i'⟩⟩
      | brk st' =>
        have e4' : Mir.run (pure (Ctl.brk st') : μ (Ctl ρ ζ)) s3 = some (of, sf) := e4
        cases run_of_pure e4'
        refine iteT ⟨fun _ _ => False, fun _ _ q => q.elim, ?_⟩
        refine hb st σ1 S2 H2 s2 _ _ _ iv2 e3 (fun _ _ _ _ q _ => nomatch q) (fun st2 σ' S' H' q i' => ?_) (fun _ _ _ q _ => nomatch q)
        cases q
        exact nx _ _ _ _ _ i' (.inr e2)
      | ret r =>
        have e4' : Mir.run (pure (Ctl.ret r) : μ (Ctl ρ ζ)) s3 = some (of, sf) := e4
        cases run_of_pure e4'
        refine iteT ⟨fun _ _ => False, fun _ _ q => q.elim, ?_⟩
        refine hb st σ1 S2 H2 s2 _ _ _ iv2 e3 (fun _ _ _ _ q _ => nomatch q) (fun _ _ _ _ q _ => nomatch q) (fun r2 v H' q i' => ?_)
        cases q
        exact rt _ _ _ _ i' e2
    | false =>
      have e3 : Mir.run (pure (.go st) : μ (Ctl ρ ζ)) s2 = some (of, sf) := by simpa using hm2
      cases run_of_pure e3
      exact iteF (nx _ σ1 S2 H2 _ iv2 (.inl e2))

/-! ### what is walked -/
abbrev Own := List (Addr × List V)
def OwnOk (p : Pt τ) (H : Hp) (O : Own) : Prop := ∀ c ∈ O, H c.1 = some (.lst c.2) ∧ c.1 ∉ p.M
def ItOk (p : Pt τ) (J : It) (xs : List α) (R : Rp α) (S : Hp) (O : Own) : Prop :=
  ∀ S1 H1, Ex S S1 → Ex S1 H1 → OwnOk p H1 O → (∀ i, i < xs.length → J.go i H1) ∧ J.stop xs.length H1 ∧ ∀ i x v H2, xs[i]? = some x → J.yld i H1 v H2 → ∃ S2, Gm [] S1 H1 S2 H2 ∧ R x v S2
def EvI (p : Pt τ) (wi : TI) (σ : St) (S H : Hp) (m : (List α → μ β) → μ β) (R : Rp α) (O : Own) : Prop :=
  ∀ S1 H1 s, Gm p.M S H S1 H1 → PotAt p s S1 H1 → ∀ (k : List α → μ β) z, Mir.run (m k) s = some z → ∀ Q : It → Hp → Prop,
    (∀ xs J S2 H2 s2, Gm p.M S1 H1 S2 H2 → PotAt p s2 S2 H2 → ItOk p J xs R S2 O → Mir.run (k xs) s2 = some z → Q J H2) → wi σ H1 Q
theorem it_list {q : Addr} {xs : List α} {vs : List V} {R : Rp α} [Mo R] {O : Own} (hl : All R S xs vs) (h : ∀ S1 H1, Ex S S1 → Ex S1 H1 → OwnOk p H1 O → SqL K H1 q vs) : ItOk p (Itl K q) xs R S O := fun S1 H1 e1 e2 o => by
  have hq := h S1 H1 e1 e2 o
  refine ⟨fun i hi => ⟨vs, vs[i]'(by rw [← hl.len]; exact hi), hq, List.getElem?_eq_getElem _⟩, ⟨vs, hq, by rw [hl.len]; exact Nat.le_refl _⟩, fun i x v H2 hx y => ?_⟩
  obtain ⟨e3, y⟩ := y
  subst e3
  obtain ⟨u, hu, ru⟩ := hl.get hx
  rw [y vs hq] at hu
  cases hu
  exact ⟨S1, Gm.rf e2, Mo.mo e1 ru⟩
theorem i_L {m : (List α → μ β) → μ β} {R : Rp α} [Mo R] (h : Ev p te σ S H m (rL (aAll R))) : EvI p (iList K te) σ S H m R [] := fun S1 H1 s g ps k z hm Q q =>
  h S1 H1 s g ps k z hm _ fun a v S2 H2 s2 g2 p2 ⟨x, vs, e, h1, h2⟩ hm2 => ⟨x, e, ⟨vs, .of (g2.i _ _ h1)⟩, q a _ S2 H2 s2 g2 p2 (it_list h2 fun S3 H3 e1 e2 _ => .of (e2 _ _ (e1 _ _ h1))) hm2⟩
theorem i_own {i : Nat} {xs : List α} {q : Addr} {vs : List V} {R : Rp α} [Mo R] (e : σ[i]? = some (some (.ref q))) (hq : H q = some (.lst vs)) (hM : q ∉ p.M) (r : All R S xs vs) : EvI (μ := μ) (β := β) p (iList K (tVar i)) σ S H (fun k => k xs) R [(q, vs)] :=
  fun _ H1 _ g ps _ _ hm _ k => ⟨.ref q, e, q, rfl, ⟨vs, .of (g.h _ _ hM hq)⟩, k _ _ _ _ _ (Gm.rf g.i) ps (it_list (r.mo g.s) fun S3 H3 e1 e2 o => .of (o (q, vs) (by simp)).1) hm⟩
theorem i_T {m : (List α → μ β) → μ β} {R : Rp α} [Mo R] (h : Ev p te σ S H m (rT K (aAll R))) : EvI p (iTup K te) σ S H m R [] := fun S1 H1 s g ps k z hm Q q =>
  h S1 H1 s g ps k z hm _ fun a v S2 H2 s2 g2 p2 ⟨x, vs, e, h1, h2⟩ hm2 => ⟨x, e, ⟨vs, sqT_ex g2.i h1⟩, q a _ S2 H2 s2 g2 p2 (fun S3 H3 e1 e2 _ => by
    have hq := sqT_ex (e1.tr e2) h1
    refine ⟨fun i hi => ⟨vs, vs[i]'(by rw [← h2.len]; exact hi), hq, List.getElem?_eq_getElem _⟩, ⟨vs, hq, by rw [h2.len]; exact Nat.le_refl _⟩, fun i x v H2 hx y => ?_⟩
    obtain ⟨e3, y⟩ := y
    subst e3
    obtain ⟨u, hu, ru⟩ := h2.get hx
    rw [y vs hq] at hu
    cases hu
    exact ⟨S3, Gm.rf e2, Mo.mo e1 ru⟩) hm2⟩
/-- lo, lo + 1, .., below hi -/
def rng (lo hi : Int) : List Int := (List.range (hi - lo).toNat).map fun (i : Nat) => lo + (i : Int)
theorem it_rng {lo : Int} {n : Nat} {O : Own} : ItOk p (Itr lo n) ((List.range n).map fun (i : Nat) => lo + (i : Int)) rI S O := fun S1 H1 _ e2 _ => by
  refine ⟨fun i hi => by show i < n; simpa using hi, by show n ≤ _; simp, fun i x v H2 hx y => ?_⟩
  obtain ⟨e3, y⟩ := y
  subst e3
  subst y
  refine ⟨S1, Gm.rf e2, ?_⟩
  rw [List.getElem?_map] at hx
  have hi : i < n := by
    by_cases h : i < n
    · exact h
    · rw [List.getElem?_eq_none (by simpa using h)] at hx; cases hx
  rw [List.getElem?_eq_getElem (by simpa using hi)] at hx
  simp at hx
  show V.int _ = V.int _
  rw [← hx]
def RgB (i : Int) : Prop := -(2 ^ 62) ≤ i ∧ i < 2 ^ 62
instance (i : Int) : Decidable (RgB i) := inferInstanceAs (Decidable (_ ∧ _))
theorem i_R1 {m : (Int → μ β) → μ β} (h : Ev p te σ S H m rI) : EvI p (iRng1 (tCons te tNil)) σ S H (fun k => m fun n => Mir.lft (grd (RgB n)) >>= fun _ => k (rng 0 n)) rI [] := fun S1 H1 s g ps k z hm Q q =>
  h S1 H1 s g ps _ z hm _ fun n v S2 H2 s2 g2 p2 r hm2 => by
    obtain ⟨_, e, hm2⟩ := run_of_lft hm2
    have hb := grd_of e
    cases (show v = .int n from r)
    refine ⟨n, rfl, hb.1, hb.2, q _ _ S2 H2 s2 g2 p2 ?_ hm2⟩
    unfold rng
    rw [Int.sub_zero]
    exact it_rng
theorem i_R2 {m m' : (Int → μ β) → μ β} (h : Ev p ta σ S H m rI) (h' : Ev p tb σ S H m' rI) : EvI p (iRng2 (tCons ta (tCons tb tNil))) σ S H (fun k => m fun i => m' fun j => Mir.lft (grd (RgB i ∧ RgB j)) >>= fun _ => k (rng i j)) rI [] := fun S1 H1 s g ps k z hm Q q =>
  h S1 H1 s g ps _ z hm _ fun i v S2 H2 s2 g2 p2 r hm2 => h' S2 H2 s2 (g.tr g2) p2 _ z hm2 _ fun j u S3 H3 s3 g3 p3 r3 hm3 => by
    obtain ⟨_, e, hm3⟩ := run_of_lft hm3
    have hb := grd_of e
    cases (show v = .int i from r)
    cases (show u = .int j from r3)
    exact ⟨i, j, rfl, ⟨hb.1.1, hb.1.2, hb.2.1, hb.2.2⟩, q _ _ S3 H3 s3 (g2.tr g3) p3 it_rng hm3⟩

/-! ### for -/
def lpS : List α → (α → ζ → μ ζ) → ζ → μ ζ
  | [], _, st => pure st
  | x :: xs, f, st => f x st >>= lpS xs f
def lpC {ρ : Type} : List α → (α → ζ → μ (Ctl ρ ζ)) → ζ → μ (Ctl ρ ζ)
  | [], _, st => pure (.go st)
  | x :: xs, f, st => f x st >>= fun o => match o with | .go st' => lpC xs f st' | y => pure y
theorem q_for {wi : TI} {g : TG} {O : Own} {m : (List α → μ β) → μ β} {R : Rp α} {P : α → St → St → Hp → Prop} {b : α → ζ → μ ζ} {st0 : ζ} {k : ζ → μ β} (w : Wd p S0 H0 S H L) (ps : PotAt p s S H) (hi : EvI p wi σ S H m R O) (ht : Tg g R P) (hm : Mir.run (m fun xs => lpS xs b st0 >>= k) s = some z)
    (Iv : Hp → ζ → St → Hp → Hp → τ → Prop)
    (h0 : ∀ S1 H1 s1, Wd p S0 H0 S1 H1 L → PotAt p s1 S1 H1 → Gm p.M S H S1 H1 → Iv S1 st0 σ S1 H1 s1)
    (hI : ∀ Sb st σ1 S1 H1 s1, Iv Sb st σ1 S1 H1 s1 → Ex Sb S1 ∧ Ex S1 H1 ∧ PotAt p s1 S1 H1 ∧ OwnOk p H1 O)
    (hg : ∀ Sb st σ1 S1 H1 s1 S2 H2, Iv Sb st σ1 S1 H1 s1 → Gm [] S1 H1 S2 H2 → Iv Sb st σ1 S2 H2 s1)
    (hb : ∀ Sb x st σ1 σ2 S1 H1 s1 st' s2 (D' : Ends), Iv Sb st σ1 S1 H1 s1 → P x σ1 σ2 S1 → Mir.run (b x st) s1 = some (st', s2) → (∀ σ' S' H', Iv Sb st' σ' S' H' s2 → D'.nx σ' H' ∧ D'.ct σ' H') → tu D' σ2 H1)
    (nx : ∀ Sb st σ1 S1 H1 s1, Iv Sb st σ1 S1 H1 s1 → Mir.run (k st) s1 = some z → tz D σ1 H1) : tSeq (tFor wi g tu) tz D σ H :=
  hi S H s (Gm.rf w.i) ps _ z hm _ fun xs J Sb Hb sb gb pb hJ hmb => by
    obtain ⟨stf, sf, e1, e2⟩ := run_of_bind hmb
    refine ⟨fun i m σ H => m = xs.length - i ∧ i ≤ xs.length ∧ ∃ st S s, Iv Sb st σ S H s ∧ Mir.run (lpS (xs.drop i) b st) s = some (stf, sf), ⟨xs.length, by simp, Nat.zero_le _, st0, Sb, sb, h0 Sb Hb sb (w.go gb) pb gb, e1⟩, ?_⟩
    rintro i m σ1 H1 ⟨em, hi, st, S1, s1, iv, e⟩
    subst em
    obtain ⟨x1, x2, p1, o1⟩ := hI _ _ _ _ _ _ iv
    obtain ⟨j1, j2, j3⟩ := hJ S1 H1 x1 x2 o1
    by_cases hlt : i < xs.length
    · have ed : xs.drop i = xs[i] :: xs.drop (i + 1) := List.drop_eq_getElem_cons hlt
      rw [ed] at e
      obtain ⟨st', s2, e3, e4⟩ := run_of_bind (show Mir.run (b xs[i] st >>= lpS (xs.drop (i + 1)) b) s1 = some (stf, sf) from e)
      refine .inr ⟨j1 i hlt, fun σ' H' => ∃ S', Iv Sb st' σ' S' H' s2, fun σ' H' ⟨S', i'⟩ => ⟨xs.length - (i + 1), by omega, rfl, hlt, st', S', s2, i', e4⟩, fun v H2 y => ?_⟩
      obtain ⟨S2, g2, r2⟩ := j3 i xs[i] v H2 (List.getElem?_eq_getElem hlt) y
      exact ht xs[i] v σ1 S2 H2 _ g2.i r2 fun σ2 hp => hb Sb xs[i] st σ1 σ2 S2 H2 s1 st' s2 _ (hg _ _ _ _ _ _ _ _ iv g2) hp e3 fun σ' S' H' i' => ⟨⟨S', i'⟩, ⟨S', i'⟩⟩
    · have ei : i = xs.length := by omega
      subst ei
      rw [List.drop_length] at e
      cases run_of_pure (show Mir.run (pure st : μ ζ) s1 = some (stf, sf) from e)
      exact .inl ⟨j2, nx _ _ _ _ _ _ iv e2⟩
theorem q_forC {ρ : Type} {wi : TI} {g : TG} {O : Own} {m : (List α → μ β) → μ β} {R : Rp α} {P : α → St → St → Hp → Prop} {b : α → ζ → μ (Ctl ρ ζ)} {st0 : ζ} {k : Ctl ρ ζ → μ β} (w : Wd p S0 H0 S H L) (ps : PotAt p s S H) (hi : EvI p wi σ S H m R O) (ht : Tg g R P) (hm : Mir.run (m fun xs => lpC xs b st0 >>= k) s = some z)
    (Iv : Hp → ζ → St → Hp → Hp → τ → Prop) (Rt : ρ → V → Hp → τ → Prop)
    (h0 : ∀ S1 H1 s1, Wd p S0 H0 S1 H1 L → PotAt p s1 S1 H1 → Gm p.M S H S1 H1 → Iv S1 st0 σ S1 H1 s1)
    (hI : ∀ Sb st σ1 S1 H1 s1, Iv Sb st σ1 S1 H1 s1 → Ex Sb S1 ∧ Ex S1 H1 ∧ PotAt p s1 S1 H1 ∧ OwnOk p H1 O)
    (hg : ∀ Sb st σ1 S1 H1 s1 S2 H2, Iv Sb st σ1 S1 H1 s1 → Gm [] S1 H1 S2 H2 → Iv Sb st σ1 S2 H2 s1)
    (hb : ∀ Sb x st σ1 σ2 S1 H1 s1 o s2 (D' : Ends), Iv Sb st σ1 S1 H1 s1 → P x σ1 σ2 S1 → Mir.run (b x st) s1 = some (o, s2) →
      (∀ st' σ' S' H', o = .go st' → Iv Sb st' σ' S' H' s2 → D'.nx σ' H' ∧ D'.ct σ' H') → (∀ st' σ' S' H', o = .brk st' → Iv Sb st' σ' S' H' s2 → D'.bk σ' H') → (∀ r v H', o = .ret r → Rt r v H' s2 → D'.rt v H') → tu D' σ2 H1)
    (nx : ∀ Sb st σ1 S1 H1 s1, Iv Sb st σ1 S1 H1 s1 → Mir.run (k (.go st)) s1 = some z ∨ Mir.run (k (.brk st)) s1 = some z → tz D σ1 H1)
    (rt : ∀ r v H1 s1, Rt r v H1 s1 → Mir.run (k (.ret r)) s1 = some z → D.rt v H1) : tSeq (tFor wi g tu) tz D σ H :=
  hi S H s (Gm.rf w.i) ps _ z hm _ fun xs J Sb Hb sb gb pb hJ hmb => by
    obtain ⟨of, sf, e1, e2⟩ := run_of_bind hmb
    refine ⟨fun i m σ H => m = xs.length - i ∧ i ≤ xs.length ∧ ∃ st S s, Iv Sb st σ S H s ∧ Mir.run (lpC (xs.drop i) b st) s = some (of, sf), ⟨xs.length, by simp, Nat.zero_le _, st0, Sb, sb, h0 Sb Hb sb (w.go gb) pb gb, e1⟩, ?_⟩
    rintro i m σ1 H1 ⟨em, hi, st, S1, s1, iv, e⟩
    subst em
    obtain ⟨x1, x2, p1, o1⟩ := hI _ _ _ _ _ _ iv
    obtain ⟨j1, j2, j3⟩ := hJ S1 H1 x1 x2 o1
    by_cases hlt : i < xs.length
    · have ed : xs.drop i = xs[i] :: xs.drop (i + 1) := List.drop_eq_getElem_cons hlt
      rw [ed] at e
      obtain ⟨o, s2, e3, e4⟩ := run_of_bind (show Mir.run (b xs[i] st >>= fun o => match o with | .go st' => lpC (xs.drop (i + 1)) b st' | y => pure y) s1 = some (of, sf) from e)
      cases o with
      | go st' =>
        refine .inr ⟨j1 i hlt, fun σ' H' => ∃ S', Iv Sb st' σ' S' H' s2, fun σ' H' ⟨S', i'⟩ => ⟨xs.length - (i + 1), by omega, rfl, hlt, st', S', s2, i', e4⟩, fun v H2 y => ?_⟩
        obtain ⟨S2, g2, r2⟩ := j3 i xs[i] v H2 (List.getElem?_eq_getElem hlt) y
        refine ht xs[i] v σ1 S2 H2 _ g2.i r2 fun σ2 hp => hb Sb xs[i] st σ1 σ2 S2 H2 s1 _ s2 _ (hg _ _ _ _ _ _ _ _ iv g2) hp e3 (fun st2 σ' S' H' q i' => ?_) (fun _ _ _ _ q _ => nomatch q) (fun _ _ _ q _ => nomatch q)
        cases q
        exact ⟨⟨S', i'⟩, ⟨S', i'⟩⟩
      | brk st' =>
        cases run_of_pure (show Mir.run (pure (Ctl.brk st') : μ (Ctl ρ ζ)) s2 = some (of, sf) from e4)
        refine .inr ⟨j1 i hlt, fun _ _ => False, fun _ _ q => q.elim, fun v H2 y => ?_⟩
        obtain ⟨S2, g2, r2⟩ := j3 i xs[i] v H2 (List.getElem?_eq_getElem hlt) y
        refine ht xs[i] v σ1 S2 H2 _ g2.i r2 fun σ2 hp => hb Sb xs[i] st σ1 σ2 S2 H2 s1 _ _ _ (hg _ _ _ _ _ _ _ _ iv g2) hp e3 (fun _ _ _ _ q _ => nomatch q) (fun st2 σ' S' H' q i' => ?_) (fun _ _ _ q _ => nomatch q)
        cases q
        exact nx _ _ _ _ _ _ i' (.inr e2)
      | ret r =>
        cases run_of_pure (show Mir.run (pure (Ctl.ret r) : μ (Ctl ρ ζ)) s2 = some (of, sf) from e4)
        refine .inr ⟨j1 i hlt, fun _ _ => False, fun _ _ q => q.elim, fun v H2 y => ?_⟩
        obtain ⟨S2, g2, r2⟩ := j3 i xs[i] v H2 (List.getElem?_eq_getElem hlt) y
        refine ht xs[i] v σ1 S2 H2 _ g2.i r2 fun σ2 hp => hb Sb xs[i] st σ1 σ2 S2 H2 s1 _ _ _ (hg _ _ _ _ _ _ _ _ iv g2) hp e3 (fun _ _ _ _ q _ => nomatch q) (fun _ _ _ _ q _ => nomatch q) (fun r2 v' H' q i' => ?_)
        cases q
        exact rt _ _ _ _ i' e2
    · have ei : i = xs.length := by omega
      subst ei
      rw [List.drop_length] at e
      cases run_of_pure (show Mir.run (pure (.go st) : μ (Ctl ρ ζ)) s1 = some (of, sf) from e)
      exact .inl ⟨j2, nx _ _ _ _ _ _ iv (.inl e2)⟩

/-! ### comprehensions -/
def cns : Option γ → List γ → List γ
  | some y, r => y :: r
  | none, r => r
def cmp : List α → (α → μ (Option γ)) → μ (List γ)
  | [], _ => pure []
  | x :: xs, f => f x >>= fun o => cmp xs f >>= fun r => pure (cns o r)
theorem OwnOk.go {O : Own} {S1 H1 : Hp} (o : OwnOk p H O) (g : Gm p.M S H S1 H1) : OwnOk p H1 O := fun c h => ⟨g.h _ _ (o c h).2 (o c h).1, (o c h).2⟩
theorem OwnOk.put {O : Own} {q : Addr} {u : HO} (o : OwnOk p H O) (n : ∀ c ∈ O, c.1 ≠ q) : OwnOk p (upd H q u) O := fun c h => ⟨by rw [upd_ne (n c h)]; exact (o c h).1, (o c h).2⟩
theorem ownOk0 : OwnOk p H [] := fun _ h => nomatch h
theorem ownOk1 {q : Addr} {vs : List V} (h : H q = some (.lst vs)) (m : q ∉ p.M) : OwnOk p H [(q, vs)] := fun c hc => by
  have e : c = (q, vs) := by simpa using hc
  rw [e]
  exact ⟨h, m⟩
theorem lc_go {g : TG} {vs : List Nat} {O : Own} {R : Rp α} {P : α → St → St → Hp → Prop} {R' : Rp γ} [Mo R'] {mt : α → (Bool → μ (Option γ)) → μ (Option γ)} {me : α → (γ → μ (Option γ)) → μ (Option γ)} {J : It} {xs : List α} {rf : List γ} {sb sf : τ} {Sb Hb : Hp} {Q : VK}
    (g1 : Gm p.M S H Sb Hb) (pb : PotAt p sb Sb Hb) (hJ : ItOk p J xs R Sb O) (hl : xs.length ≤ 16000000) (ho : OwnOk p H O) (ht : Tg g R P) (hw : ∀ x σ' S, P x (wipe σ vs) σ' S → wipe σ' vs = wipe σ vs)
    (hc : ∀ x σ' S1 H1, Gm p.M S H S1 H1 → P x (wipe σ vs) σ' S1 → EvT p tt σ' S1 H1 (mt x))
    (he : ∀ x σ' S1 H1, Gm p.M S H S1 H1 → P x (wipe σ vs) σ' S1 → Ev p te σ' S1 H1 (me x) R') (hP : PMo P)
    (e1 : Mir.run (cmp xs (fun x => mt x fun b => if b = true then me x fun y => pure (some y) else pure none)) sb = some (rf, sf))
    (q : ∀ x us S2 H2, Gm p.M Sb Hb S2 H2 → PotAt p sf S2 H2 → Hb x = none → H2 x = some (.lst us) → S2 x = none → x ∉ p.M → All R' S2 rf us → Q (.ref x) H2) :
    ∀ D, Hb D = none → ∃ W : Nat → Nat → Hp → Prop, (∃ m, W 0 m (upd Hb D (.lst []))) ∧ ∀ i m H, W i m H →
      (J.stop i H ∧ Q (.ref D) H) ∨ (J.go i H ∧ ∃ Nx : Hp → Prop, (∀ H', Nx H' → ∃ m', m' < m ∧ W (i + 1) m' H') ∧ ∀ x H', J.yld i H x H' → g x (wipe σ vs) H' fun σ2 H2 => wipe σ2 vs = wipe σ vs ∧ tt σ2 H2 fun b H3 =>
        if b = true then te σ2 H3 fun y H4 => ∃ acc, H4 D = some (.lst acc) ∧ acc.length < sizeLine ∧ Nx (upd H4 D (.lst (acc ++ [y]))) else Nx H3) := by
    intro Dl hD
    have nS : Sb Dl = none := g1.i.no hD
    have oM : Dl ∉ p.M := new_nM pb hD
    have ob : OwnOk p Hb O := ho.go g1
    have oD : ∀ c ∈ O, c.1 ≠ Dl := fun c h e => by
      have := (ob c h).1
      rw [e, hD] at this; cases this
    refine ⟨fun i m H => m = xs.length - i ∧ i ≤ xs.length ∧ ∃ acc avs rest S s, Gm p.M Sb Hb S H ∧ PotAt p s S H ∧ S Dl = none ∧ H Dl = some (.lst avs) ∧ All R' S acc avs ∧ avs.length ≤ i ∧ OwnOk p H O ∧
      Mir.run (cmp (xs.drop i) (fun x => mt x fun b => if b = true then me x fun y => pure (some y) else pure none)) s = some (rest, sf) ∧ rf = acc ++ rest, ⟨xs.length, by simp, Nat.zero_le _, [], [], rf, Sb, sb, Gm.own g1.i hD, pb.put oM, nS, upd_same, .nil, Nat.le_refl _, ob.put oD, e1, rfl⟩, ?_⟩
    rintro i m H2 ⟨em, hi, acc, avs, rest, S2, s2, g2, p2, n2, d2, a2, l2, o2, r2, er⟩
    subst em
    obtain ⟨j1, j2, j3⟩ := hJ S2 H2 g2.s g2.i o2
    by_cases hlt : i < xs.length
    · have ed : xs.drop i = xs[i] :: xs.drop (i + 1) := List.drop_eq_getElem_cons hlt
      rw [ed] at r2
      obtain ⟨o, s3, e3, e4⟩ := run_of_bind (show Mir.run ((mt xs[i] fun b => if b = true then me xs[i] fun y => pure (some y) else pure none) >>= fun o => cmp (xs.drop (i + 1)) (fun x => mt x fun b => if b = true then me x fun y => pure (some y) else pure none) >>= fun r => pure (cns o r)) s2 = some (rest, sf) from r2)
      obtain ⟨rest', s4, e5, e6⟩ := run_of_bind e4
      have e7 := run_of_pure e6
      have e8 : rest = cns o rest' := congrArg Prod.fst e7
      have e9 : sf = s4 := congrArg Prod.snd e7
      subst e9
      refine .inr ⟨j1 i hlt, fun H' => ∃ acc avs S, Gm p.M Sb Hb S H' ∧ PotAt p s3 S H' ∧ S Dl = none ∧ H' Dl = some (.lst avs) ∧ All R' S acc avs ∧ avs.length ≤ i + 1 ∧ OwnOk p H' O ∧ rf = acc ++ rest', fun H' ⟨acc, avs, S, h1, h2, h3, h4, h5, h6, h7, h8⟩ => ⟨xs.length - (i + 1), by omega, rfl, hlt, acc, avs, rest', S, s3, h1, h2, h3, h4, h5, h6, h7, e5, h8⟩, fun v H3 y => ?_⟩
      obtain ⟨S3, g3, r3⟩ := j3 i xs[i] v H3 (List.getElem?_eq_getElem hlt) y
      have gA : Gm p.M S H S3 H3 := (g1.tr g2).tr g3.up
      refine ht xs[i] v (wipe σ vs) S3 H3 _ g3.i r3 fun σ3 hp => ⟨hw _ _ _ hp, ?_⟩
      refine hc xs[i] σ3 S3 H3 gA hp S3 H3 s2 (Gm.rf g3.i) (p2.go g3) _ (o, s3) e3 _ fun b S4 H4 s4 g4 p4 hm4 => ?_
      have d4 : H4 Dl = some (.lst avs) := g4.h _ _ oM (g3.h _ _ (by simp) d2)
      have n4 : S4 Dl = none := g4.f _ _ (g3.h _ _ (by simp) d2) (g3.f _ _ d2 n2)
      have a4 := a2.mo (g3.s.tr g4.s)
      cases b with
      | true =>
        refine iteT (he xs[i] σ3 S4 H4 (gA.tr g4) (hP _ _ _ _ _ g4.s hp) S4 H4 s4 (Gm.rf g4.i) p4 _ (o, s3) (by simpa using hm4) _ fun c u S5 H5 s5 g5 p5 r5 hm5 => ?_)
        have e10 := run_of_pure hm5
        have e11 : o = some c := congrArg Prod.fst e10
        have e12 : s3 = s5 := congrArg Prod.snd e10
        subst e11
        subst e12
        have d5 : H5 Dl = some (.lst avs) := g5.h _ _ oM d4
        have n5 : S5 Dl = none := g5.f _ _ d4 n4
        refine ⟨avs, d5, by rw [sizeLine_eq]; omega, acc ++ [c], avs ++ [u], S5, ?_, p5.put oM, n5, upd_same, (a4.mo g5.s).app (.cons r5 .nil), by simp; omega, (((o2.go g3.up).go g4).go g5).put oD, ?_⟩
        · exact (((g2.tr g3.up).tr g4).tr g5).put hD n5
        · rw [er, e8]; simp [cns]
      | false =>
        have e10 := run_of_pure (show Mir.run (pure none : μ (Option γ)) s4 = some (o, s3) by simpa using hm4)
        have e11 : o = none := congrArg Prod.fst e10
        have e12 : s3 = s4 := congrArg Prod.snd e10
        subst e11
        subst e12
        exact iteF ⟨acc, avs, S4, (g2.tr g3.up).tr g4, p4, n4, d4, a4, by omega, (o2.go g3.up).go g4, by rw [er, e8]; rfl⟩
    · have ei : i = xs.length := by omega
      subst ei
      rw [List.drop_length] at r2
      have e3 := run_of_pure (show Mir.run (pure [] : μ (List γ)) s2 = some (rest, sf) from r2)
      have e4 : rest = [] := congrArg Prod.fst e3
      have e5 : sf = s2 := congrArg Prod.snd e3
      subst e4
      subst e5
      rw [List.append_nil] at er
      subst er
      exact .inl ⟨j2, q Dl avs S2 H2 g2 p2 hD d2 n2 oM a2⟩
theorem l_lc {wi : TI} {g : TG} {vs : List Nat} {O : Own} {mi : (List α → μ β) → μ β} {R : Rp α} {P : α → St → St → Hp → Prop} {R' : Rp γ} [Mo R'] {mt : α → (Bool → μ (Option γ)) → μ (Option γ)} {me : α → (γ → μ (Option γ)) → μ (Option γ)}
    (hi : EvI p wi σ S H mi R O) (ho : OwnOk p H O) (ht : Tg g R P) (hw : ∀ x σ' S, P x (wipe σ vs) σ' S → wipe σ' vs = wipe σ vs)
    (hc : ∀ x σ' S1 H1, Gm p.M S H S1 H1 → P x (wipe σ vs) σ' S1 → EvT p tt σ' S1 H1 (mt x))
    (he : ∀ x σ' S1 H1, Gm p.M S H S1 H1 → P x (wipe σ vs) σ' S1 → Ev p te σ' S1 H1 (me x) R') (hP : PMo P) :
    EvL p (tLc wi g tt te vs) σ S H (fun k => mi fun xs => Mir.lft (grd (xs.length ≤ 16000000)) >>= fun _ => cmp xs (fun x => mt x fun b => if b = true then me x fun y => pure (some y) else pure none) >>= k) (aAll R') := fun S1 H1 s g1 ps k z hm Q q =>
  hi S1 H1 s g1 ps _ z hm _ fun xs J Sb Hb sb gb pb hJ hmb => by
    obtain ⟨_, el, hmb⟩ := run_of_lft hmb
    have hl := grd_of el
    obtain ⟨rf, sf, e1, e2⟩ := run_of_bind hmb
    exact lc_go (g1.tr gb) pb hJ hl ho ht hw hc he hP e1 fun x us S2 H2 g2 p2 n e n2 m2 a2 => by
      have n1 : H1 x = none := by
        cases e : H1 x with
        | none => rfl
        | some u => obtain ⟨u', e'⟩ := gb.t x u e; rw [n] at e'; cases e'
      exact q rf x us S2 H2 sf (gb.tr g2) p2 n1 e n2 m2 a2 e2
/-- without a test -/
theorem l_lc1 {wi : TI} {g : TG} {vs : List Nat} {O : Own} {mi : (List α → μ β) → μ β} {R : Rp α} {P : α → St → St → Hp → Prop} {R' : Rp γ} [Mo R'] {me : α → (γ → μ (Option γ)) → μ (Option γ)}
    (hi : EvI p wi σ S H mi R O) (ho : OwnOk p H O) (ht : Tg g R P) (hw : ∀ x σ' S, P x (wipe σ vs) σ' S → wipe σ' vs = wipe σ vs)
    (he : ∀ x σ' S1 H1, Gm p.M S H S1 H1 → P x (wipe σ vs) σ' S1 → Ev p te σ' S1 H1 (me x) R') (hP : PMo P) :
    EvL p (tLc wi g tYes te vs) σ S H (fun k => mi fun xs => Mir.lft (grd (xs.length ≤ 16000000)) >>= fun _ => cmp xs (fun x => me x fun y => pure (some y)) >>= k) (aAll R') :=
  l_lc (mt := fun _ k => k true) hi ho ht hw (fun _ _ _ _ _ _ => fun S1 H1 s g ps k z hm Q q => q true S1 H1 s (Gm.rf g.i) ps hm) he hP
/-- the test and the item are asked without a condition -/
theorem cmp_all {t : α → Bool} {f : α → γ} : ∀ (xs : List α) (s : τ), Mir.run (cmp (μ := μ) xs fun x => if t x = true then pure (some (f x)) else pure none) s = some ((xs.filter t).map f, s)
  | [], s => Mir.run_pure _ _
  | x :: xs, s => by
    show Mir.run ((if t x = true then pure (some (f x)) else pure none) >>= fun o => cmp (μ := μ) xs _ >>= fun r => pure (cns o r)) s = _
    have e : (if t x = true then pure (some (f x)) else pure none : μ (Option γ)) = pure (if t x = true then some (f x) else none) := by split <;> rfl
    rw [e, Mir.run_bind, Mir.run_pure]
    show Mir.run (cmp (μ := μ) xs _ >>= fun r => pure (cns _ r)) s = _
    rw [Mir.run_bind, cmp_all xs s]
    show Mir.run (pure _ : μ (List γ)) s = _
    rw [Mir.run_pure]
    cases h : t x with
    | true => simp [cns, List.filter_cons, h]
    | false => simp [cns, List.filter_cons, h]
theorem l_lcT {wi : TI} {g : TG} {vs : List Nat} {O : Own} {mi : (List α → μ β) → μ β} {R : Rp α} {P : α → St → St → Hp → Prop} {R' : Rp γ} [Mo R'] {t : α → Bool} {f : α → γ}
    (hi : EvI p wi σ S H mi R O) (ho : OwnOk p H O) (ht : Tg g R P) (hw : ∀ x σ' S, P x (wipe σ vs) σ' S → wipe σ' vs = wipe σ vs)
    (hc : ∀ x σ' S1 H1, Gm p.M S H S1 H1 → P x (wipe σ vs) σ' S1 → EvT (μ := μ) (β := Option γ) p tt σ' S1 H1 (fun k => k (t x)))
    (he : ∀ x σ' S1 H1, Gm p.M S H S1 H1 → P x (wipe σ vs) σ' S1 → Ev (μ := μ) (β := Option γ) p te σ' S1 H1 (fun k => k (f x)) R') (hP : PMo P) :
    EvL p (tLc wi g tt te vs) σ S H (fun k => mi fun xs => Mir.lft (grd (xs.length ≤ 16000000)) >>= fun _ => k ((xs.filter t).map f)) (aAll R') := fun S1 H1 s g1 ps k z hm Q q =>
  hi S1 H1 s g1 ps _ z hm _ fun xs J Sb Hb sb gb pb hJ hmb => by
    obtain ⟨_, el, hmb⟩ := run_of_lft hmb
    exact lc_go (mt := fun x k => k (t x)) (me := fun x k => k (f x)) (g1.tr gb) pb hJ (grd_of el) ho ht hw hc he hP (cmp_all xs sb) fun x us S2 H2 g2 p2 n e n2 m2 a2 => by
      have n1 : H1 x = none := by
        cases e : H1 x with
        | none => rfl
        | some u => obtain ⟨u', e'⟩ := gb.t x u e; rw [n] at e'; cases e'
      exact q _ x us S2 H2 sb (gb.tr g2) p2 n1 e n2 m2 a2 hmb
theorem filter_T (xs : List α) : (xs.filter fun _ => true) = xs := List.filter_eq_self.mpr fun _ _ => rfl
theorem l_lc1T {wi : TI} {g : TG} {vs : List Nat} {O : Own} {mi : (List α → μ β) → μ β} {R : Rp α} {P : α → St → St → Hp → Prop} {R' : Rp γ} [Mo R'] {f : α → γ}
    (hi : EvI p wi σ S H mi R O) (ho : OwnOk p H O) (ht : Tg g R P) (hw : ∀ x σ' S, P x (wipe σ vs) σ' S → wipe σ' vs = wipe σ vs)
    (he : ∀ x σ' S1 H1, Gm p.M S H S1 H1 → P x (wipe σ vs) σ' S1 → Ev (μ := μ) (β := Option γ) p te σ' S1 H1 (fun k => k (f x)) R') (hP : PMo P) :
    EvL p (tLc wi g tYes te vs) σ S H (fun k => mi fun xs => Mir.lft (grd (xs.length ≤ 16000000)) >>= fun _ => k (xs.map f)) (aAll R') := fun S1 H1 s g1 ps k z hm Q q =>
  hi S1 H1 s g1 ps _ z hm _ fun xs J Sb Hb sb gb pb hJ hmb => by
    obtain ⟨_, el, hmb⟩ := run_of_lft hmb
    have ec := cmp_all (μ := μ) (t := fun _ => true) (f := f) xs sb
    rw [filter_T] at ec
    exact lc_go (mt := fun x k => k true) (me := fun x k => k (f x)) (g1.tr gb) pb hJ (grd_of el) ho ht hw (fun _ _ _ _ _ _ => fun S1 H1 s g ps k z hm Q q => q true S1 H1 s (Gm.rf g.i) ps hm) he hP ec fun x us S2 H2 g2 p2 n e n2 m2 a2 => by
      have n1 : H1 x = none := by
        cases e : H1 x with
        | none => rfl
        | some u => obtain ⟨u', e'⟩ := gb.t x u e; rw [n] at e'; cases e'
      exact q _ x us S2 H2 sb (gb.tr g2) p2 n1 e n2 m2 a2 hmb
end
end Wk
set_option Elab.async false
set_option maxRecDepth 100000
set_option maxHeartbeats 4000000
set_option linter.all false
/-! W3: defs whose callers show nothing (guards known), promises by mirrors, calls -/
namespace Wk
open PySem L2
open PyProof.Rows hiding St

/-- a def keeps its promise wherever no repr is under way -/
structure FnG (P : Program) (w : World) (K : PySem.W.Frag) (mg : Str → Option Value) (base : Heap) (CX : CXT) (k : Nat) (f : Addr) (fd : FuncData) (ps : List Str) (sp : Sp) : Prop where
  len : ∀ vs H Q E, sp vs H Q E → vs.length = ps.length
  run : ∀ (A : Around) (outer : List Env) (s : Shared) (H : Hp) (args : Args) (us : List Value) (vs : List V) (Q : VK) (E : XK),
    Room k A → A.guards = some [] → Env0 P w K mg base A outer s H → BindsTo s fd args (ps.zip us) → Vals vs us → sp vs H Q E →
    codeAny (model P w) A (.call (.ref f) args) (CR CX outer P w H s Q E) s
theorem FnG.up {P : Program} {w : World} {K : PySem.W.Frag} {mg : Str → Option Value} {base : Heap} {CX : CXT} {j k : Nat} {f : Addr} {fd : FuncData} {ps : List Str} {sp : Sp}
    (F : FnG P w K mg base CX j f fd ps sp) (h : j ≤ k) : FnG P w K mg base CX k f fd ps sp :=
  ⟨F.len, fun A o s H a us vs Q E hr => F.run A o s H a us vs Q E (hr.mono h)⟩
section
variable {P : Program} {w : World} {K : PySem.W.Frag} {mg : Str → Option Value} {base : Heap}
/-- a def by its body -/
theorem okG {CX : CXT} {x qual : Str} {st : Stmt} {f : Addr} {fd : FuncData} {N ps : List Str} {k : Nat} {sp : Sp} (F : Fun K x qual st f fd) (Sc : FnScope N ps (defScope st))
    (len : ∀ vs H Q E, sp vs H Q E → vs.length = ps.length)
    (body : ∀ (cdv : Value) (A : Around) (outer : List Env) (s : Shared) (H : Hp) (vs : List V) (Q : VK) (E : XK),
      Room k (A.deeper (envOfC qual (defScope st) s.heap.objs.size f cdv)) → A.guards = some [] → sp vs H Q E →
      ∃ t, PSs (cxOf CX P w K mg base N qual (defScope st) f cdv A outer s H E) (defBody st) t ∧ t { nx := fun _ H' => Q .non H', rt := Q } (start N vs) H) :
    FnG P w K mg base CX (k + 1) f fd ps sp := by
  obtain ⟨oc, od, kV, doc, pm, an, cdv, ct, osl, rfl, lk, hcd⟩ := F.ex
  constructor
  · exact len
  intro A outer s H args us vs Q E room gd e0 hb rv hsp
  have inK : K.In s.heap := e0.mod.kin.keeps (fun b o e => (e0.bs b o e).1)
  have noLim : s.heap.NoLimit := e0.mod.nolimit.keeps (fun b o e => (e0.bs b o e).1)
  have kinds : ∀ y ∈ ps.zip us, (defScope st).names.lookup y.1 = some .local ∨
      ((defScope st).names.lookup y.1 = some .cell ∧ ((cellsFrom (s.heap.objs.size + 1) (defScope st).names []).lookup y.1).isSome = true) := by
    rintro ⟨nm, vl⟩ hy
    cases Sc.par nm (List.of_mem_zip hy).1 with
    | inl q => exact Or.inl q
    | inr q => exact Or.inr ⟨q, PySem.W.cellsFrom_some _ _ _ (Or.inl q)⟩
  apply codeAny_call_function room.depth (inK _ _ lk) rfl Sc.co Sc.gen rfl (PySem.W.codeRec_of inK hcd)
  apply hb
  apply wpAny_newFunctionEnv_cells Sc.kind kinds
  intro env he s1 x
  subst he
  constructor
  · exact noLim.keeps x.toInCall.keep
  apply codeAny_func
  obtain ⟨t, ht, hq⟩ := body cdv A outer s H vs Q E (room.deeper _) gd hsp
  have I0 := inv_start (CX := CX) (E := E) (cd := cdv) (f := f) (qual := qual) Sc room.hd e0 (len _ _ _ _ hsp) rv x
  refine wpAny_mono (ht.run [] s1 (start N vs) H _ I0 hq) ?_ (fun e s' hs => hs)
  intro fl s' hs
  cases fl with
  | ret u =>
    obtain ⟨v, σ', H', J, r1, q⟩ := hs
    exact ⟨v, H', J.os, J.bare, J.base, J.hok, r1, q⟩
  | next =>
    obtain ⟨σ', H', J, q⟩ := hs
    exact ⟨V.non, H', J.os, J.bare, J.base, J.hok, rfl, q⟩
  | brk =>
    obtain ⟨σ', H', J, q⟩ := hs
    exact q.elim
  | cont =>
    obtain ⟨σ', H', J, q⟩ := hs
    exact q.elim
/-- .. that lets nothing out -/
theorem okG0 {x qual : Str} {st : Stmt} {f : Addr} {fd : FuncData} {N ps : List Str} {k : Nat} {sp : Sp} (F : Fun K x qual st f fd) (Sc : FnScope N ps (defScope st))
    (len : ∀ vs H Q E, sp vs H Q E → vs.length = ps.length)
    (body : ∀ (cdv : Value) (A : Around) (outer : List Env) (s : Shared) (H : Hp) (vs : List V) (Q : VK) (E : XK),
      Room k (A.deeper (envOfC qual (defScope st) s.heap.objs.size f cdv)) → A.guards = some [] → sp vs H Q E →
      ∃ t, PSs (cxOf CX0 P w K mg base N qual (defScope st) f cdv A outer s H E).nox (defBody st) t ∧ t { nx := fun _ H' => Q .non H', rt := Q } (start N vs) H) :
    FnG P w K mg base CX0 (k + 1) f fd ps sp := okG F Sc len fun cdv A outer s H vs Q E hr gd h => by
  obtain ⟨t, h1, h2⟩ := body cdv A outer s H vs Q E hr gd h
  exact ⟨t, h1.nox, h2⟩
end

/-! ### calls -/
section
variable {X : Cx} {CX : CXT} {k n : Nat} {f : Addr} {fd : FuncData} {ps ks : List Str} {sp : Sp} {E : XK} {x : Str} {p pos : Pos} {e : Expr} {es : List Expr} {kws : List Keyword} {t tk : TA}
/-- what a callee's run gives to its caller -/
theorem end_G {pins : List (Addr × Obj)} {σ : St} {H : Hp} {s s' : Shared} {Q : VK} {r : Result} (hx : Passes CX X E) (I : Inv X pins σ H s) (h : CR CX X.stack X.prog X.w H s Q E r s') :
    match r with | .ok (.ret u) => EP X pins σ Q u s' | .ok _ => False | .error e => X.xe e s' := by
  match r, h with
  | .ok (.ret u), h => exact I.after h
  | .error e, h => exact hx pins σ H s e s' I h
theorem run_G {pins : List (Addr × Obj)} {σ : St} {H : Hp} {s : Shared} {Q : VK} {us : List Value} {vs : List V} (F : FnG X.prog X.w X.K X.mg X.base CX k f fd ps sp) (hr : Room k X.A) (gd : X.A.guards = some [])
    (hb : Binds X.K fd ps []) (hx : Passes CX X E) (I : Inv X pins σ H s) (r : Vals vs us) (h : sp vs H Q E) : wpAny (model X.prog X.w) X.A (call (.ref f) us) (EP X pins σ Q) X.xe s := by
  have hl : (us ++ []).length = ps.length := by
    rw [List.append_nil, ← r.length]
    exact F.len _ _ _ _ h
  have hb' := hb s us I.kIn hl
  rw [List.append_nil] at hb'
  refine wpAny_call (codeAny_mono (F.run X.A X.stack s H ⟨us, []⟩ us vs Q E hr gd I.env0 hb' r h) fun res s' hq => ?_)
  have q := end_G hx I hq
  cases res with
  | error er => exact q
  | ok fl => cases fl <;> first | exact q | exact q.elim
theorem pe_cG (F : FnG X.prog X.w X.K X.mg X.base CX k f fd ps sp) (hr : Room k X.A) (gd : X.A.guards = some []) (hg : Gl X x) (hm : X.mg x = some (.ref f)) (hk : PySem.W.keepIn X.K (.ref f) = true) (hb : Binds X.K fd ps []) (hx : Passes CX X E)
    (ha : PA X (e :: es) t) (hdb : (x == ("__debug__" : Str)) = false := by decide) (he : starEach (e :: es) X.env = (false, eval e X.env) :: starEach es X.env := by rfl) (hpl : (backTo pos (starEach es X.env)).any (·.1) = false := by rfl) :
    PE X (.Call (.Name x p) (e :: es) [] pos) (tCall sp [] E t) := by
  constructor
  intro pins s σ H Q I h
  apply wpAny_Call_Name_kw
  apply ld_glob I hg hm _ hdb
  apply PySem.W.callWith_K (h₀ := X.base) I.ok.mod.kin hk _ he hpl
  refine thn (ha.run pos pins s σ H _ I h) ?_
  rintro us s1 ⟨vs, H1, I1, r, q⟩
  refine ⟨I1.kIn, run_G F hr gd hb hx I1 r ?_⟩
  rw [List.append_nil] at q
  exact q
theorem pe_cG0 (F : FnG X.prog X.w X.K X.mg X.base CX k f fd ps sp) (hr : Room k X.A) (gd : X.A.guards = some []) (hg : Gl X x) (hm : X.mg x = some (.ref f)) (hk : PySem.W.keepIn X.K (.ref f) = true) (hb : Binds X.K fd ps []) (hx : Passes CX X E)
    (hdb : (x == ("__debug__" : Str)) = false := by decide) : PE X (.Call (.Name x p) [] [] pos) (tCall sp [] E tNil) := by
  constructor
  intro pins s σ H Q I h
  apply wpAny_Call_Name_kw
  apply ld_glob I hg hm _ hdb
  apply PySem.W.callWith_K0 I.kIn hk
  exact run_G (us := []) (vs := []) F hr gd hb hx I .nil h
theorem pick_vals {vs : List V} {us : List Value} (r : Vals vs us) : ∀ ix : List Nat, Vals (pick ix vs) (pick ix us)
  | [] => .nil
  | i :: ix => by
    have h := pick_vals r ix
    unfold pick at h ⊢
    rw [List.filterMap_cons, List.filterMap_cons]
    cases e : vs[i]? with
    | none =>
      rw [r.none_of e]
      exact h
    | some v =>
      obtain ⟨u, e2, r2⟩ := r.get e
      rw [e2]
      exact .cons r2 h
/-- how names are bound where some are given by keywords: n by place, those of ks by name; ix tells the parameters' order -/
def KB (K : PySem.W.Frag) (fd : FuncData) (ps : List Str) (n : Nat) (ks : List Str) (ix : List Nat) : Prop :=
  ∀ (s : Shared) (us ws : List Value), K.In s.heap → us.length = n → ws.length = ks.length → BindsTo s fd ⟨us, ks.zip ws⟩ (ps.zip (pick ix (us ++ ws)))
def tCallG (n m : Nat) (ix : List Nat) (sp : Sp) (E : XK) (t tk : TA) : TE := fun σ H Q => t σ H fun vs H1 => tk σ H1 fun zs H2 => vs.length = n ∧ zs.length = m ∧ sp (pick ix (vs ++ zs)) H2 Q E
theorem run_Gk {pins : List (Addr × Obj)} {σ : St} {H : Hp} {s : Shared} {Q : VK} {ix : List Nat} {us ws : List Value} {vs zs : List V} (F : FnG X.prog X.w X.K X.mg X.base CX k f fd ps sp) (hr : Room k X.A) (gd : X.A.guards = some [])
    (hb : KB X.K fd ps n ks ix) (hx : Passes CX X E) (I : Inv X pins σ H s) (r : Vals vs us) (rz : Vals zs ws) (l1 : vs.length = n) (l2 : zs.length = ks.length) (h : sp (pick ix (vs ++ zs)) H Q E) :
    wpAny (model X.prog X.w) X.A (call (.ref f) us (ks.zip ws)) (EP X pins σ Q) X.xe s := by
  have hb' := hb s us ws I.kIn (r.length.symm.trans l1) (rz.length.symm.trans l2)
  refine wpAny_call (codeAny_mono (F.run X.A X.stack s H ⟨us, ks.zip ws⟩ _ _ Q E hr gd I.env0 hb' (pick_vals (r.append rz) ix) h) fun res s' hq => ?_)
  have q := end_G hx I hq
  cases res with
  | error er => exact q
  | ok fl => cases fl <;> first | exact q | exact q.elim
theorem pe_cGK {ix : List Nat} (F : FnG X.prog X.w X.K X.mg X.base CX k f fd ps sp) (hr : Room k X.A) (gd : X.A.guards = some []) (hg : Gl X x) (hm : X.mg x = some (.ref f)) (hk : PySem.W.keepIn X.K (.ref f) = true) (hb : KB X.K fd ps n ks ix) (hx : Passes CX X E)
    (ha : PA X (e :: es) t) (hkw : PK X kws tk) (hall : (backToKw pos (keywordEach kws X.env)).all (·.1.isSome) = true := by rfl) (hks : (backToKw pos (keywordEach kws X.env)).filterMap (·.1) = ks := by rfl)
    (hdb : (x == ("__debug__" : Str)) = false := by decide) (he : starEach (e :: es) X.env = (false, eval e X.env) :: starEach es X.env := by rfl)
    (hpl : ((backTo pos (starEach (e :: es) X.env)).any (·.1) || (backToKw pos (keywordEach kws X.env)).any (·.1.isNone)) = false := by rfl) :
    PE X (.Call (.Name x p) (e :: es) kws pos) (tCallG n ks.length ix sp E t tk) := by
  constructor
  intro pins s σ H Q I h
  apply wpAny_Call_Name_kw
  apply ld_glob I hg hm _ hdb
  refine PySem.W.callWith_KW (h₀ := X.base) I.ok.mod.kin hk hall (thn (ha.run pos pins s σ H _ I h) ?_) hpl he
  rintro us s1 ⟨vs, H1, I1, r, q⟩
  refine thn (hkw.run pos pins s1 σ H1 _ I1 q) ?_
  rintro ws s2 ⟨zs, H2, I2, rz, l1, l2, q2⟩
  refine ⟨I2.kIn, ?_⟩
  rw [hks]
  exact run_Gk F hr gd hb hx I2 r rz l1 l2 q2
theorem pe_cGK0 {ix : List Nat} (F : FnG X.prog X.w X.K X.mg X.base CX k f fd ps sp) (hr : Room k X.A) (gd : X.A.guards = some []) (hg : Gl X x) (hm : X.mg x = some (.ref f)) (hk : PySem.W.keepIn X.K (.ref f) = true) (hb : KB X.K fd ps 0 ks ix) (hx : Passes CX X E)
    (hkw : PK X kws tk) (hall : (backToKw pos (keywordEach kws X.env)).all (·.1.isSome) = true := by rfl) (hks : (backToKw pos (keywordEach kws X.env)).filterMap (·.1) = ks := by rfl)
    (hdb : (x == ("__debug__" : Str)) = false := by decide)
    (hpl : ((backTo pos (starEach [] X.env)).any (·.1) || (backToKw pos (keywordEach kws X.env)).any (·.1.isNone)) = false := by rfl) :
    PE X (.Call (.Name x p) [] kws pos) (tCallG 0 ks.length ix sp E tNil tk) := by
  constructor
  intro pins s σ H Q I h
  apply wpAny_Call_Name_kw
  apply ld_glob I hg hm _ hdb
  have h' : tk σ H (fun zs H2 => ([] : List V).length = 0 ∧ zs.length = ks.length ∧ sp (pick ix ([] ++ zs)) H2 Q E) := h
  refine PySem.W.callWith_KW0 (h₀ := X.base) I.ok.mod.kin hk hall (thn (hkw.run pos pins s σ H _ I h') ?_) hpl
  rintro ws s2 ⟨zs, H2, I2, rz, l1, l2, q2⟩
  refine ⟨I2.kIn, ?_⟩
  rw [hks]
  exact run_Gk (us := []) (vs := []) F hr gd hb hx I2 .nil rz l1 l2 q2
end

/-! ### promises by mirrors -/
section
variable {μ : Type → Type} {τ : Type} [Mir μ τ] {ν : Type → Type} {υ : Type} [Mir ν υ] {ι α β γ δ ρ : Type} {p : Pt τ} {σ : St} {S H S0 H0 : Hp} {te ta tb : TE} {tt : TT} {K : PySem.W.Frag}
/-- what stays comes back -/
def spV (F : ι → Pt τ) (fm : α → μ ρ) (A : ι → Rq α) (R : Rp ρ) : Sp := fun vs H Q _ => ∃ i a S s r s', Ex S H ∧ PotAt (F i) s S H ∧ A i a vs S ∧ Mir.run (fm a) s = some (r, s') ∧
  ∀ v S' H', Gm (F i).M S H S' H' → PotAt (F i) s' S' H' → R r v S' → Q v H'
/-- a new list comes back -/
def spN (F : ι → Pt τ) (fm : α → μ ρ) (A : ι → Rq α) (R : Rq ρ) : Sp := fun vs H Q _ => ∃ i a S s r s', Ex S H ∧ PotAt (F i) s S H ∧ A i a vs S ∧ Mir.run (fm a) s = some (r, s') ∧
  ∀ q us S' H', Gm (F i).M S H S' H' → PotAt (F i) s' S' H' → H q = none → H' q = some (.lst us) → S' q = none → R r us S' → Q (.ref q) H'
def F0 : Unit → Pt Unit := fun _ => pt0
theorem pot0' {S H : Hp} {s : Unit} : PotAt pt0 s S H := fun _ h => nomatch h
/-- a pure def's call -/
theorem e_call {fm : α → Option ρ} {A : Rq α} {R : Rp ρ} {t : TA} {E : XK} {m : (α → μ β) → μ β} (h : EvA p t σ S H m A) : Ev p (tCall (spV F0 fm (fun _ => A) R) [] E t) σ S H (fun k => m fun a => Mir.lft (fm a) >>= k) R := fun S1 H1 s g ps k z hm Q q =>
  h S1 H1 s g ps _ z hm _ fun a vs S2 H2 s2 g2 p2 r hm2 => by
    obtain ⟨b, e, hm3⟩ := run_of_lft hm2
    refine ⟨(), a, S2, (), b, (), g2.i, pot0', by rw [List.append_nil]; exact r, by show (fm a).map _ = _; rw [e]; rfl, fun v S' H' g3 _ r3 => ?_⟩
    exact q b v S' H' s2 (g2.tr (Gm.up g3)) (p2.go g3) r3 hm3
theorem l_call {fm : α → Option ρ} {A : Rq α} {R : Rq ρ} {t : TA} {E : XK} {m : (α → μ β) → μ β} (h : EvA p t σ S H m A) : EvL p (tCall (spN F0 fm (fun _ => A) R) [] E t) σ S H (fun k => m fun a => Mir.lft (fm a) >>= k) R := fun S1 H1 s g ps k z hm Q q =>
  h S1 H1 s g ps _ z hm _ fun a vs S2 H2 s2 g2 p2 r hm2 => by
    obtain ⟨b, e, hm3⟩ := run_of_lft hm2
    refine ⟨(), a, S2, (), b, (), g2.i, pot0', by rw [List.append_nil]; exact r, by show (fm a).map _ = _; rw [e]; rfl, fun x us S' H' g3 _ n e3 n3 r3 => ?_⟩
    have n1 : H1 x = none := by
      cases e : H1 x with
      | none => rfl
      | some u => obtain ⟨u', e'⟩ := g2.t x u e; rw [n] at e'; cases e'
    exact q b x us S' H' s2 (g2.tr (Gm.up g3)) (p2.go g3) n1 e3 n3 (new_nM p2 n) r3 hm3
/-- a def that changes the lot -/
theorem e_callP {F : ι → Pt τ} {i : ι} {fm : α → μ ρ} {A : ι → Rq α} {R : Rp ρ} {t : TA} {E : XK} {m : (α → μ β) → μ β} (h : EvA (F i) t σ S H m (A i)) : Ev (F i) (tCall (spV F fm A R) [] E t) σ S H (fun k => m fun a => fm a >>= k) R := fun S1 H1 s g ps k z hm Q q =>
  h S1 H1 s g ps _ z hm _ fun a vs S2 H2 s2 g2 p2 r hm2 => by
    obtain ⟨b, s3, e, hm3⟩ := run_of_bind hm2
    refine ⟨i, a, S2, s2, b, s3, g2.i, p2, by rw [List.append_nil]; exact r, e, fun v S' H' g3 p3 r3 => ?_⟩
    exact q b v S' H' s3 (g2.tr g3) p3 r3 hm3
theorem l_callP {F : ι → Pt τ} {i : ι} {fm : α → μ ρ} {A : ι → Rq α} {R : Rq ρ} {t : TA} {E : XK} {m : (α → μ β) → μ β} (h : EvA (F i) t σ S H m (A i)) : EvL (F i) (tCall (spN F fm A R) [] E t) σ S H (fun k => m fun a => fm a >>= k) R := fun S1 H1 s g ps k z hm Q q =>
  h S1 H1 s g ps _ z hm _ fun a vs S2 H2 s2 g2 p2 r hm2 => by
    obtain ⟨b, s3, e, hm3⟩ := run_of_bind hm2
    refine ⟨i, a, S2, s2, b, s3, g2.i, p2, by rw [List.append_nil]; exact r, e, fun x us S' H' g3 p3 n e3 n3 r3 => ?_⟩
    have n1 : H1 x = none := by
      cases e : H1 x with
      | none => rfl
      | some u => obtain ⟨u', e'⟩ := g2.t x u e; rw [n] at e'; cases e'
    exact q b x us S' H' s3 (g2.tr g3) p3 n1 e3 n3 (new_nM p2 n) r3 hm3
/-- by keywords -/
theorem e_callK {n m' : Nat} {ix : List Nat} {fm : α → Option ρ} {A : Rq α} {A1 : Rq γ} {A2 : Rq δ} {R : Rp ρ} {t tk : TA} {E : XK} {m1 : (γ → μ β) → μ β} {m2 : (δ → μ β) → μ β} (π : γ → δ → α) (h1 : EvA p t σ S H m1 A1) (h2 : EvA p tk σ S H m2 A2) [Mo A1]
    (hπ : ∀ a b vs zs S, A1 a vs S → A2 b zs S → vs.length = n ∧ zs.length = m' ∧ A (π a b) (pick ix (vs ++ zs)) S) : Ev p (tCallG n m' ix (spV F0 fm (fun _ => A) R) E t tk) σ S H (fun k => m1 fun a => m2 fun b => Mir.lft (fm (π a b)) >>= k) R := fun S1 H1 s g ps k z hm Q q =>
  h1 S1 H1 s g ps _ z hm _ fun a vs S2 H2 s2 g2 p2 r hm2 => h2 S2 H2 s2 (g.tr g2) p2 _ z hm2 _ fun b zs S3 H3 s3 g3 p3 r3 hm3 => by
    obtain ⟨c, e, hm4⟩ := run_of_lft hm3
    obtain ⟨l1, l2, r4⟩ := hπ a b vs zs S3 (Mo.mo g3.s r) r3
    refine ⟨l1, l2, (), π a b, S3, (), c, (), g3.i, pot0', r4, by show (fm _).map _ = _; rw [e]; rfl, fun v S' H' g4 _ r5 => ?_⟩
    exact q c v S' H' s3 ((g2.tr g3).tr (Gm.up g4)) (p3.go g4) r5 hm4
theorem l_callK {n m' : Nat} {ix : List Nat} {fm : α → Option ρ} {A : Rq α} {A1 : Rq γ} {A2 : Rq δ} {R : Rq ρ} {t tk : TA} {E : XK} {m1 : (γ → μ β) → μ β} {m2 : (δ → μ β) → μ β} (π : γ → δ → α) (h1 : EvA p t σ S H m1 A1) (h2 : EvA p tk σ S H m2 A2) [Mo A1]
    (hπ : ∀ a b vs zs S, A1 a vs S → A2 b zs S → vs.length = n ∧ zs.length = m' ∧ A (π a b) (pick ix (vs ++ zs)) S) : EvL p (tCallG n m' ix (spN F0 fm (fun _ => A) R) E t tk) σ S H (fun k => m1 fun a => m2 fun b => Mir.lft (fm (π a b)) >>= k) R := fun S1 H1 s g ps k z hm Q q =>
  h1 S1 H1 s g ps _ z hm _ fun a vs S2 H2 s2 g2 p2 r hm2 => h2 S2 H2 s2 (g.tr g2) p2 _ z hm2 _ fun b zs S3 H3 s3 g3 p3 r3 hm3 => by
    obtain ⟨c, e, hm4⟩ := run_of_lft hm3
    obtain ⟨l1, l2, r4⟩ := hπ a b vs zs S3 (Mo.mo g3.s r) r3
    refine ⟨l1, l2, (), π a b, S3, (), c, (), g3.i, pot0', r4, by show (fm _).map _ = _; rw [e]; rfl, fun x us S' H' g4 _ n e3 n3 r5 => ?_⟩
    have n1 : H1 x = none := by
      cases e : H1 x with
      | none => rfl
      | some u => obtain ⟨u', e'⟩ := (g2.tr g3).t x u e; rw [n] at e'; cases e'
    exact q c x us S' H' s3 ((g2.tr g3).tr (Gm.up g4)) (p3.go g4) n1 e3 n3 (new_nM p3 n) r5 hm4
end

/-! ### the law's end -/
theorem vals_ints' {vs : List Value} {ns : List Int} (h : IntsAre vs ns) : Vals (ns.map V.int) vs := vals_ints h
/-- the head's goal, from the law's promise: as the layer's own, guards told -/
theorem law_G {P : Program} {w : World} {K : PySem.W.Frag} {mg mb : Str → Option Value} {CX : CXT} {k : Nat} {fa a : Addr} {fd : FuncData} {x : Str} {sp : Sp} {s₁ : Shared} {vs : List Value} {ns : List Int}
    (KX : K.In s₁.heap) (hns : s₁.heap.Ns mainGlobals mg) (hdg : s₁.heap.NoDigits) (hb : s₁.heap.Ns builtinsNs mb) (hbb : ∀ x : Str, x ≠ "__name__" → mb x = bootBuiltins x) (hlim : s₁.heap.NoLimit) (hg : s₁.gens = #[])
    (ha : s₁.heap.get? a = some { cls := .type "list", data := .seq vs.toArray }) (hi : IntsAre vs ns) (hl : ns.length ≤ sizeLine) (hr : Room k callerA)
    (F : ∀ base : Heap, K.In base → base.Ns mainGlobals mg → base.NoDigits → FnG P w K mg base CX k fa fd [x] sp) (hbind : ∀ (s : Shared) (u : Value), BindsTo s fd ⟨[u], []⟩ [(x, u)])
    (hsp : ∀ H : Hp, SqL K H a (ns.map V.int) → sp [.ref a] H (fun v _ => v = .bl true) fun _ _ _ => False)
    (hCX : ∀ H e s', CX [] H s₁ (fun _ _ _ => False) e s' → False) :
    codeAny (model P w) callerA (.call (.ref fa) ⟨[.ref a], []⟩) (fun r s' => r = .ok (.ret (.bool true)) ∧ OldK s₁.heap s'.heap ∧ s'.os = s₁.os ∧ AllBare s'.gens) s₁ := by
  have rv := vals_ints hi
  have lenV := hi.length
  -- a heap that tracks at most the script
  let ob : Obj := { cls := .type "list", data := .seq vs.toArray }
  have go : ∀ H : Hp, (∀ b u, H b = some u → b = a ∧ u = .frz ob (.lst (ns.map V.int))) → SqL K H a (ns.map V.int) → (H a ≠ none → K.lookup a = none) →
      codeAny (model P w) callerA (.call (.ref fa) ⟨[.ref a], []⟩) (fun r s' => r = .ok (.ret (.bool true)) ∧ OldK s₁.heap s'.heap ∧ s'.os = s₁.os ∧ AllBare s'.gens) s₁ := by
    intro H only hS hK
    have ok : HOk P w H s₁.heap := by
      intro b u e
      obtain ⟨e1, e2⟩ := only b u e
      subst e1 e2
      exact ⟨ha, by rw [List.length_map]; exact hl, vs, 0, rv, ha⟩
    have free : ∀ {b : Addr} {o : Obj} {es : Array DictEntry} {ep : Nat}, s₁.heap.get? b = some o → o.data = .dict es ep → H b = none := by
      intro b o es ep e d
      cases q : H b with
      | none => rfl
      | some u =>
        obtain ⟨e1, _⟩ := only b u q
        subst e1
        rw [ha] at e
        cases e
        exact nomatch d
    have ns' : ∀ {b : Addr} {m : Str → Option Value}, s₁.heap.Ns b m → (hidT s₁.heap H).Ns b m := by
      rintro b m ⟨o, es, ep, e, d, r⟩
      exact ⟨o, es, ep, hidT_get e (free e d), d, r⟩
    have inB : K.In (hidT s₁.heap H) := by
      intro b o e
      apply hidT_get (KX b o e)
      cases q : H b with
      | none => rfl
      | some u =>
        obtain ⟨e1, _⟩ := only b u q
        subst e1
        rw [hK (by rw [q]; simp)] at e
        cases e
    have md : Mod K mg (hidT s₁.heap H) := ⟨inB, ns' hns, ⟨mb, ns' hb, hbb⟩, by obtain ⟨mc, h1, h2⟩ := hlim; exact ⟨mc, ns' h1, h2⟩⟩
    have none_in : ∀ b : Addr, b ∉ frs [] := fun b z => nomatch (show b ∈ ([] : List Addr) from z)
    have e0 : Env0 P w K mg (hidT s₁.heap H) callerA [] s₁ H :=
      ⟨rfl, md, fun b o e => of_hidT e, Nat.le_of_eq (hidT_size _ _), trivial, fun b hb => absurd hb (none_in b), ok, .of_eq hg⟩
    have run := (F _ inB (ns' hns) (let ⟨mc, h1, h2⟩ := hdg; ⟨mc, ns' h1, h2⟩)).run callerA [] s₁ H ⟨[.ref a], []⟩ [.ref a] [.ref a] _ _ hr rfl e0 (hbind s₁ (.ref a)) (.cons rfl .nil) (hsp H hS)
    refine codeAny_mono run ?_
    intro r s' h
    match r, h with
    | .error e, h => exact (hCX H e s' h).elim
    | .ok (.ret u), h =>
      obtain ⟨v, H', os, bare, un, ok', r', q⟩ := h
      have q' : v = .bl true := q
      subst q'
      have ru : u = Value.bool true := r'
      subst ru
      refine ⟨rfl, OldK.of_keep ?_, os, bare⟩
      intro b o e
      cases q : H b with
      | none => exact un.keep b o e q (none_in b) (by simp)
      | some u =>
        obtain ⟨e1, e2⟩ := only b u q
        subst e1 e2
        obtain ⟨g1, _⟩ := ok' _ _ (un.frzs _ _ _ q)
        rw [ha] at e
        cases e
        exact g1
  cases hk : K.lookup a with
  | some o =>
    have e := KX a o hk
    rw [ha] at e
    cases e
    exact go (fun _ => none) (fun _ _ z => nomatch z) (.inr ⟨_, vs.toArray, _, hk, rfl, rfl, rfl, by rw [List.size_toArray, lenV]; exact hl, by simpa using rv⟩) (fun z => absurd rfl z)
  | none =>
    refine go (upd (fun _ => none) a (.frz ob (.lst (ns.map V.int)))) ?_ (.inl (.inr ⟨ob, upd_same⟩)) (fun _ => hk)
    intro b u z
    by_cases hb : b = a
    · subst hb
      rw [upd_same] at z
      exact ⟨rfl, (Option.some.inj z).symm⟩
    · rw [upd_ne hb] at z
      cases z
theorem walk_G {l : PySem.W.OpenLaw} {n k : Nat} {q : Program} {loose : List Str} {XP : (Str → Option Value) → Heap → Prop} {YP : World → Heap → Prop} {d : DefRec} {K : Params → PySem.W.Frag} {CX : CXT} {sp : PySem.W.Frag → Sp} {x : Str}
    (hn : l.most = some n) (hn2 : n ≤ sizeLine) (hdf : d.params.defaults = []) (hr : Room k callerA)
    (hY : ∀ (w : World) (h : Heap), YP w h → (K w.params).In h)
    (F : ∀ (w : World) (mg : Str → Option Value) (fa : Addr) (h : Heap), (K w.params).In h → h.Ns mainGlobals mg → mg d.name = some (.ref fa) →
      ∃ fd : FuncData, (∀ (s : Shared) (u : Value), BindsTo s fd ⟨[u], []⟩ [(x, u)]) ∧
        ∀ base : Heap, (K w.params).In base → base.Ns mainGlobals mg → base.NoDigits → FnG l.prog w (K w.params) mg base CX k fa fd [x] (sp (K w.params)))
    (hsp : ∀ (K : PySem.W.Frag) (H : Hp) (a : Addr) (ns : List Int), ns.length ≤ n → (∀ i ∈ ns, Builtin.Int.intBits i ≤ 1048576) → SqL K H a (ns.map V.int) → sp K [.ref a] H (fun v _ => v = .bl true) fun _ _ _ => False)
    (hCX : ∀ (H : Hp) (s : Shared) (e : Value) (s' : Shared), CX [] H s (fun _ _ _ => False) e s' → False) :
    PySem.W.WalkO q loose XP YP l.row.toRowW d [] (fun f vs => PySem.call f vs) := by
  refine Att.attach_callB hn hdf ?_
  intro w s₀ s₁ mg mb fa o pm cd doc a vs ns G Y ho hd hcd hmg hobj hints hlen hbits hg
  have KX := hY w _ Y
  obtain ⟨fd, hb, hF⟩ := F w mg fa _ KX G.T.g hmg
  exact law_G KX G.T.g G.T.nodigits G.T.b G.T.builtins G.T.nolimit hg hobj hints (Nat.le_trans hlen hn2) hr hF hb (fun H hS => hsp _ H a ns hlen hbits hS) (fun H e s' => hCX H s₁ e s')
end Wk
set_option Elab.async false
set_option maxRecDepth 100000
set_option maxHeartbeats 4000000
set_option linter.all false
/-! W4: operators, built-ins, repr -/
namespace Wk
open PySem L2
open PyProof.Rows hiding St
section
variable {μ : Type → Type} {τ : Type} [Mir μ τ] {α β γ δ ρ : Type} {p : Pt τ} {σ : St} {S H S0 H0 : Hp} {te ta tb : TE} {tt : TT} {K : PySem.W.Frag}

/-! ### whole numbers -/
theorem e_add {mA mB : (Int → μ β) → μ β} (ha : Ev p ta σ S H mA rI) (hb : Ev p tb σ S H mB rI) : Ev p (tOp (rI0 fun i j => .int (i + j)) ta tb) σ S H (fun k => mA fun i => mB fun j => k (i + j)) rI := e_op0 (D := fun i j => i + j) ha hb fun _ _ _ => rfl
theorem e_sub {mA mB : (Int → μ β) → μ β} (ha : Ev p ta σ S H mA rI) (hb : Ev p tb σ S H mB rI) : Ev p (tOp (rI0 fun i j => .int (i - j)) ta tb) σ S H (fun k => mA fun i => mB fun j => k (i - j)) rI := e_op0 (D := fun i j => i - j) ha hb fun _ _ _ => rfl
theorem e_mul {mA mB : (Int → μ β) → μ β} (ha : Ev p ta σ S H mA rI) (hb : Ev p tb σ S H mB rI) : Ev p (tOp (L2.rI CMulX fun i j => .int (i * j)) ta tb) σ S H (fun k => mA fun i => mB fun j => Mir.lft (grd (Sm i ∧ Sm j)) >>= fun _ => k (i * j)) rI :=
  e_opC (c := fun i j => Sm i ∧ Sm j) (D := fun i j => i * j) ha hb (fun _ _ h => Sm.mul h) fun _ _ _ _ => rfl
def Dv (j : Int) : Prop := 0 < j ∧ j.natAbs.log2 < 9000
instance (j : Int) : Decidable (Dv j) := inferInstanceAs (Decidable (_ ∧ _))
theorem e_fdiv {mA mB : (Int → μ β) → μ β} (ha : Ev p ta σ S H mA rI) (hb : Ev p tb σ S H mB rI) : Ev p (tOp (L2.rI CDivW fun i j => .int (i / j)) ta tb) σ S H (fun k => mA fun i => mB fun j => Mir.lft (grd (Dv j)) >>= fun _ => k (i / j)) rI :=
  e_opC (c := fun _ j => Dv j) (D := fun i j => i / j) ha hb (fun _ _ h => h) fun _ _ _ _ => rfl
theorem e_mod {mA mB : (Int → μ β) → μ β} (ha : Ev p ta σ S H mA rI) (hb : Ev p tb σ S H mB rI) : Ev p (tOp (L2.rI (fun _ j => 0 < j) fun i j => .int (i % j)) ta tb) σ S H (fun k => mA fun i => mB fun j => Mir.lft (grd (0 < j)) >>= fun _ => k (i % j)) rI :=
  e_opC (c := fun _ j => 0 < j) (D := fun i j => i % j) ha hb (fun _ _ h => h) fun _ _ _ _ => rfl
def Pw (i j : Int) : Prop := 0 ≤ j ∧ j ≤ 1000000 ∧ i.natAbs < 18446744073709551616
instance (i j : Int) : Decidable (Pw i j) := inferInstanceAs (Decidable (_ ∧ _))
theorem e_pow {mA mB : (Int → μ β) → μ β} (ha : Ev p ta σ S H mA rI) (hb : Ev p tb σ S H mB rI) : Ev p (tOp (L2.rI CPow fun i j => .int (i ^ j.toNat)) ta tb) σ S H (fun k => mA fun i => mB fun j => Mir.lft (grd (Pw i j)) >>= fun _ => k (i ^ j.toNat)) rI :=
  e_opC (c := Pw) (D := fun i j => i ^ j.toNat) ha hb (fun _ _ h => ⟨h.1, h.2.1, by have := h.2.2; omega⟩) fun _ _ _ _ => rfl
def Sl (i j : Int) : Prop := Sm i ∧ 0 ≤ j ∧ j ≤ 60000000
instance (i j : Int) : Decidable (Sl i j) := inferInstanceAs (Decidable (_ ∧ _))
theorem e_shl {mA mB : (Int → μ β) → μ β} (ha : Ev p ta σ S H mA rI) (hb : Ev p tb σ S H mB rI) : Ev p (tOp (L2.rI CShl fun i j => .int (i * 2 ^ j.toNat)) ta tb) σ S H (fun k => mA fun i => mB fun j => Mir.lft (grd (Sl i j)) >>= fun _ => k (i * 2 ^ j.toNat)) rI :=
  e_opC (c := Sl) (D := fun i j => i * 2 ^ j.toNat) ha hb (fun i _ h => ⟨h.2.1, by have := bits_log i; have := h.1; unfold Sm at this; have := h.2.2; omega⟩) fun _ _ _ _ => rfl
theorem e_shr {mA mB : (Int → μ β) → μ β} (ha : Ev p ta σ S H mA rI) (hb : Ev p tb σ S H mB rI) : Ev p (tOp (L2.rI (fun _ j => 0 ≤ j) fun i j => .int (i / 2 ^ j.toNat)) ta tb) σ S H (fun k => mA fun i => mB fun j => Mir.lft (grd (0 ≤ j)) >>= fun _ => k (i / 2 ^ j.toNat)) rI :=
  e_opC (c := fun _ j => 0 ≤ j) (D := fun i j => i / 2 ^ j.toNat) ha hb (fun _ _ h => h) fun _ _ _ _ => rfl
theorem e_band {mA mB : (Int → μ β) → μ β} (ha : Ev p ta σ S H mA rI) (hb : Ev p tb σ S H mB rI) : Ev p (tOp (rI0 fun i j => .int (Builtin.bitAnd i j)) ta tb) σ S H (fun k => mA fun i => mB fun j => k (Builtin.bitAnd i j)) rI := e_op0 (D := fun i j => Builtin.bitAnd i j) ha hb fun _ _ _ => rfl
theorem e_bor {mA mB : (Int → μ β) → μ β} (ha : Ev p ta σ S H mA rI) (hb : Ev p tb σ S H mB rI) : Ev p (tOp (rI0 fun i j => .int (Builtin.bitOr i j)) ta tb) σ S H (fun k => mA fun i => mB fun j => k (Builtin.bitOr i j)) rI := e_op0 (D := fun i j => Builtin.bitOr i j) ha hb fun _ _ _ => rfl
theorem e_neg {m : (Int → μ β) → μ β} (h : Ev p te σ S H m rI) : Ev p (tUn (L2.rU fun i => .int (-i)) te) σ S H (fun k => m fun i => k (-i)) rI := fun S1 H1 s g ps k z hm Q q =>
  h S1 H1 s g ps _ z hm _ fun i v S2 H2 s2 g2 p2 r hm2 => ⟨i, r, q _ _ S2 H2 s2 g2 p2 rfl hm2⟩
theorem e_lt {mA mB : (Int → μ β) → μ β} (ha : Ev p ta σ S H mA rI) (hb : Ev p tb σ S H mB rI) : Ev p (tOp (rI0 fun i j => .bl (decide (i < j))) ta tb) σ S H (fun k => mA fun i => mB fun j => k (decide (i < j))) rB := e_op0 (D := fun i j => decide (i < j)) ha hb fun _ _ _ => rfl
theorem e_le {mA mB : (Int → μ β) → μ β} (ha : Ev p ta σ S H mA rI) (hb : Ev p tb σ S H mB rI) : Ev p (tOp (rI0 fun i j => .bl (decide (i ≤ j))) ta tb) σ S H (fun k => mA fun i => mB fun j => k (decide (i ≤ j))) rB := e_op0 (D := fun i j => decide (i ≤ j)) ha hb fun _ _ _ => rfl
theorem e_gt {mA mB : (Int → μ β) → μ β} (ha : Ev p ta σ S H mA rI) (hb : Ev p tb σ S H mB rI) : Ev p (tOp (rI0 fun i j => .bl (decide (j < i))) ta tb) σ S H (fun k => mA fun i => mB fun j => k (decide (j < i))) rB := e_op0 (D := fun i j => decide (j < i)) ha hb fun _ _ _ => rfl
theorem e_ge {mA mB : (Int → μ β) → μ β} (ha : Ev p ta σ S H mA rI) (hb : Ev p tb σ S H mB rI) : Ev p (tOp (rI0 fun i j => .bl (decide (j ≤ i))) ta tb) σ S H (fun k => mA fun i => mB fun j => k (decide (j ≤ i))) rB := e_op0 (D := fun i j => decide (j ≤ i)) ha hb fun _ _ _ => rfl

/-! ### flat values that are equal -/
class Fl {α : Type} (R : Rp α) where
  c : α → V
  is : ∀ a v S, R a v S ↔ v = c a
  sc : ∀ a b, scal (c a) (c b) = true
  inj : ∀ a b, c a = c b → a = b
instance : Fl rI := ⟨V.int, fun _ _ _ => Iff.rfl, fun _ _ => rfl, fun _ _ h => V.int.inj h⟩
instance : Fl rB := ⟨V.bl, fun _ _ _ => Iff.rfl, fun _ _ => rfl, fun _ _ h => V.bl.inj h⟩
instance : Fl rS := ⟨V.str, fun _ _ _ => Iff.rfl, fun _ _ => rfl, fun _ _ h => V.str.inj h⟩
theorem Fl.dec {R : Rp α} [Fl R] [DecidableEq α] (a b : α) : decide (Fl.c R a = Fl.c R b) = decide (a = b) := by
  by_cases h : a = b
  · subst h; simp
  · rw [decide_eq_false h, decide_eq_false fun e => h (Fl.inj _ _ e)]
theorem e_eq {R : Rp α} [Fl R] [DecidableEq α] {mA mB : (α → μ β) → μ β} (ha : Ev p ta σ S H mA R) (hb : Ev p tb σ S H mB R) : Ev p (tOp rEq ta tb) σ S H (fun k => mA fun i => mB fun j => k (decide (i = j))) rB := fun S1 H1 s g ps k z hm Q q =>
  ha S1 H1 s g ps _ z hm _ fun i v S2 H2 s2 g2 p2 r2 hm2 => hb S2 H2 s2 (g.tr g2) p2 _ z hm2 _ fun j u S3 H3 s3 g3 p3 r3 hm3 => by
    have e1 := (Fl.is i v S2).mp r2
    have e2 := (Fl.is j u S3).mp r3
    subst e1
    subst e2
    exact ⟨Fl.sc i j, q _ _ S3 H3 s3 (g2.tr g3) p3 (by show V.bl _ = V.bl _; rw [Fl.dec]) hm3⟩
theorem e_ne {R : Rp α} [Fl R] [DecidableEq α] {mA mB : (α → μ β) → μ β} (ha : Ev p ta σ S H mA R) (hb : Ev p tb σ S H mB R) : Ev p (tOp rNe ta tb) σ S H (fun k => mA fun i => mB fun j => k (!decide (i = j))) rB := fun S1 H1 s g ps k z hm Q q =>
  ha S1 H1 s g ps _ z hm _ fun i v S2 H2 s2 g2 p2 r2 hm2 => hb S2 H2 s2 (g.tr g2) p2 _ z hm2 _ fun j u S3 H3 s3 g3 p3 r3 hm3 => by
    have e1 := (Fl.is i v S2).mp r2
    have e2 := (Fl.is j u S3).mp r3
    subst e1
    subst e2
    exact ⟨Fl.sc i j, q _ _ S3 H3 s3 (g2.tr g3) p3 (by show V.bl _ = V.bl _; rw [Fl.dec]) hm3⟩
/-- is None, is not None of what may be None -/
class NN {α : Type} (R : Rp α) : Prop where
  nn : ∀ a v S, R a v S → v ≠ .non
instance : NN rI := ⟨fun _ _ _ h e => by rw [show _ = V.int _ from h] at e; cases e⟩
instance : NN rB := ⟨fun _ _ _ h e => by rw [show _ = V.bl _ from h] at e; cases e⟩
instance : NN rS := ⟨fun _ _ _ h e => by rw [show _ = V.str _ from h] at e; cases e⟩
instance {A : Rq α} : NN (rT K A) := ⟨fun _ _ _ ⟨_, _, h, _⟩ e => by rw [h] at e; cases e⟩
instance {A : Rq α} : NN (rL A) := ⟨fun _ _ _ ⟨_, _, h, _⟩ e => by rw [h] at e; cases e⟩
theorem isN_dec {R : Rp α} [NN R] {a : Option α} {v : V} (r : rO R a v S) : decide (v = .non) = a.isNone := by
  cases a with
  | none => rw [show v = .non from r]; rfl
  | some x => rw [decide_eq_false (NN.nn x v S r)]; rfl
theorem e_isN {R : Rp α} [NN R] {m : (Option α → μ β) → μ β} (h : Ev p te σ S H m (rO R)) : Ev p (tOp (fun x y H Q => y = .non ∧ Q (.bl (decide (x = .non))) H) te (tC .non)) σ S H (fun k => m fun a => k a.isNone) rB := fun S1 H1 s g ps k z hm Q q =>
  h S1 H1 s g ps _ z hm _ fun a v S2 H2 s2 g2 p2 r hm2 => ⟨rfl, q _ _ S2 H2 s2 g2 p2 (by show V.bl _ = V.bl _; rw [isN_dec r]) hm2⟩
theorem e_notN {R : Rp α} [NN R] {m : (Option α → μ β) → μ β} (h : Ev p te σ S H m (rO R)) : Ev p (tOp (fun x y H Q => y = .non ∧ Q (.bl (!decide (x = .non))) H) te (tC .non)) σ S H (fun k => m fun a => k (!a.isNone)) rB := fun S1 H1 s g ps k z hm Q q =>
  h S1 H1 s g ps _ z hm _ fun a v S2 H2 s2 g2 p2 r hm2 => ⟨rfl, q _ _ S2 H2 s2 g2 p2 (by show V.bl _ = V.bl _; rw [isN_dec r]) hm2⟩

/-! ### places -/
theorem All.atI {R : Rp α} {xs : List α} {vs : List V} {i : Int} {x : α} (h : All R S xs vs) (e : L2.atI xs i = some x) : ∃ v, L2.atI vs i = some v ∧ R x v S := by
  unfold L2.atI at e ⊢
  rw [h.len] at e
  cases q : ixN vs.length i with
  | none => rw [q] at e; cases e
  | some j =>
    rw [q] at e
    obtain ⟨v, h1, h2⟩ := h.get (i := j) (x := x) e
    exact ⟨v, h1, h2⟩
theorem e_ixL {R : Rp α} [Mo R] {mA : (List α → μ β) → μ β} {mB : (Int → μ β) → μ β} (ha : EvR p ta σ S H mA (aAll R)) (hb : Ev p tb σ S H mB rI) : Ev p (tOp (rIxL K) ta tb) σ S H (fun k => mA fun xs => mB fun i => Mir.lft (L2.atI xs i) >>= k) R := fun S1 H1 s g ps k z hm Q q =>
  ha S1 H1 s g ps _ z hm _ fun xs x vs S2 H2 s2 g2 p2 e2 m2 r2 hm2 => hb S2 H2 s2 (g.tr g2) p2 _ z hm2 _ fun i u S3 H3 s3 g3 p3 r3 hm3 => by
    obtain ⟨a, e, hm4⟩ := run_of_lft hm3
    have r2' := All.mo g3.s (show All R S2 xs vs from r2)
    obtain ⟨v, e4, r4⟩ := r2'.atI e
    cases (show u = .int i from r3)
    exact ⟨x, vs, i, v, rfl, rfl, .of (g3.h _ _ m2 e2), e4, q a v S3 H3 s3 (g2.tr g3) p3 r4 hm4⟩
theorem e_ixT {R : Rp α} [Mo R] {mA : (List α → μ β) → μ β} {mB : (Int → μ β) → μ β} (ha : Ev p ta σ S H mA (rT K (aAll R))) (hb : Ev p tb σ S H mB rI) : Ev p (tOp (rIxT K) ta tb) σ S H (fun k => mA fun xs => mB fun i => Mir.lft (L2.atI xs i) >>= k) R := fun S1 H1 s g ps k z hm Q q =>
  ha S1 H1 s g ps _ z hm _ fun xs v S2 H2 s2 g2 p2 ⟨x, vs, e2, h2, r2⟩ hm2 => hb S2 H2 s2 (g.tr g2) p2 _ z hm2 _ fun i u S3 H3 s3 g3 p3 r3 hm3 => by
    obtain ⟨a, e, hm4⟩ := run_of_lft hm3
    have r2' := All.mo g3.s (show All R S2 xs vs from r2)
    obtain ⟨v, e4, r4⟩ := r2'.atI e
    cases (show u = .int i from r3)
    exact ⟨x, vs, i, v, e2, rfl, sqT_ex (g3.s.tr g3.i) h2, e4, q a v S3 H3 s3 (g2.tr g3) p3 r4 hm4⟩
/-- a written place of a thing of a known make -/
theorem e_ixC {A : Rq α} {R : Rp γ} {n : Int} {f : α → γ} {mA : (α → μ β) → μ β} {mB : (Int → μ β) → μ β} (ha : Ev p ta σ S H mA (rT K A)) (hb : tb = tC (.int n)) (hn : ∀ a vs S, A a vs S → ∃ v, L2.atI vs n = some v ∧ R (f a) v S) : Ev p (tOp (rIxT K) ta tb) σ S H (fun k => mA fun a => k (f a)) R := fun S1 H1 s g ps k z hm Q q =>
  ha S1 H1 s g ps _ z hm _ fun a v S2 H2 s2 g2 p2 ⟨x, vs, e2, h2, r2⟩ hm2 => by
    subst hb
    obtain ⟨u, e4, r4⟩ := hn a vs S2 r2
    exact ⟨x, vs, n, u, e2, rfl, sqT_ex g2.i h2, e4, q _ u S2 H2 s2 g2 p2 r4 hm2⟩
theorem e_ixCL {A : Rq α} {R : Rp γ} {n : Int} {f : α → γ} {mA : (α → μ β) → μ β} (ha : EvR p ta σ S H mA A) (hb : tb = tC (.int n)) (hn : ∀ a vs S, A a vs S → ∃ v, L2.atI vs n = some v ∧ R (f a) v S) : Ev p (tOp (rIxL K) ta tb) σ S H (fun k => mA fun a => k (f a)) R := fun S1 H1 s g ps k z hm Q q =>
  ha S1 H1 s g ps _ z hm _ fun a x vs S2 H2 s2 g2 p2 e2 m2 r2 hm2 => by
    subst hb
    obtain ⟨u, e4, r4⟩ := hn a vs S2 r2
    exact ⟨x, vs, n, u, rfl, rfl, .of e2, e4, q _ u S2 H2 s2 g2 p2 r4 hm2⟩

/-! ### built-in functions -/
theorem c_lenL {R : Rp α} {m : (List α → μ β) → μ β} (h : EvR p te σ S H m (aAll R)) : Ev p (tCB (fun xs H Q => ∃ p ys, xs = [.ref p] ∧ (SqL K H p ys ∨ SqT K H p ys) ∧ Q (.int ys.length) H) (tCons te tNil)) σ S H (fun k => m fun xs => k (xs.length : Int)) rI := fun S1 H1 s g ps k z hm Q q =>
  h S1 H1 s g ps _ z hm _ fun xs x vs S2 H2 s2 g2 p2 e2 m2 r2 hm2 => ⟨x, vs, rfl, .inl (.of e2), q _ _ S2 H2 s2 g2 p2 (by show V.int _ = V.int _; rw [All.len (show All R S2 xs vs from r2)]) hm2⟩
theorem c_lenT {R : Rp α} {m : (List α → μ β) → μ β} (h : Ev p te σ S H m (rT K (aAll R))) : Ev p (tCB (fun xs H Q => ∃ p ys, xs = [.ref p] ∧ (SqL K H p ys ∨ SqT K H p ys) ∧ Q (.int ys.length) H) (tCons te tNil)) σ S H (fun k => m fun xs => k (xs.length : Int)) rI := fun S1 H1 s g ps k z hm Q q =>
  h S1 H1 s g ps _ z hm _ fun xs v S2 H2 s2 g2 p2 ⟨x, vs, e2, h2, r2⟩ hm2 => ⟨x, vs, by rw [e2], .inr (sqT_ex g2.i h2), q _ _ S2 H2 s2 g2 p2 (by show V.int _ = V.int _; rw [All.len (show All R S2 xs vs from r2)]) hm2⟩
theorem c_sum {m : (List Int → μ β) → μ β} (h : EvR p te σ S H m (aAll rI)) : Ev p (tCB (rSum K) (tCons te tNil)) σ S H (fun k => m fun xs => k xs.sum) rI := fun S1 H1 s g ps k z hm Q q =>
  h S1 H1 s g ps _ z hm _ fun xs x vs S2 H2 s2 g2 p2 e2 m2 r2 hm2 => ⟨x, xs, rfl, .of (by rw [e2, All.ints r2]), q _ _ S2 H2 s2 g2 p2 rfl hm2⟩
theorem min_one {xs : List Int} {a m : Int} (h : xs.min? = some a) (h1 : m ∈ xs) (h2 : ∀ y, y ∈ xs → m ≤ y) : m = a := by
  have := List.min?_eq_some_iff.mp h
  exact Int.le_antisymm (h2 a this.1) (this.2 m h1)
theorem max_one {xs : List Int} {a m : Int} (h : xs.max? = some a) (h1 : m ∈ xs) (h2 : ∀ y, y ∈ xs → y ≤ m) : m = a := by
  have := List.max?_eq_some_iff.mp h
  exact Int.le_antisymm (this.2 m h1) (h2 a this.1)
theorem c_min {m : (List Int → μ β) → μ β} (h : EvR p te σ S H m (aAll rI)) : Ev p (tCB (rMin K) (tCons te tNil)) σ S H (fun k => m fun xs => Mir.lft xs.min? >>= k) rI := fun S1 H1 s g ps k z hm Q q =>
  h S1 H1 s g ps _ z hm _ fun xs x vs S2 H2 s2 g2 p2 e2 m2 r2 hm2 => by
    obtain ⟨a, e, hm3⟩ := run_of_lft hm2
    refine ⟨x, xs, rfl, .of (by rw [e2, All.ints r2]), ?_, fun n h1 h2 => q a _ S2 H2 s2 g2 p2 (by rw [min_one e h1 h2]; rfl) hm3⟩
    cases xs with
    | nil => cases e
    | cons _ _ => simp
theorem c_max {m : (List Int → μ β) → μ β} (h : EvR p te σ S H m (aAll rI)) : Ev p (tCB (rMax K) (tCons te tNil)) σ S H (fun k => m fun xs => Mir.lft xs.max? >>= k) rI := fun S1 H1 s g ps k z hm Q q =>
  h S1 H1 s g ps _ z hm _ fun xs x vs S2 H2 s2 g2 p2 e2 m2 r2 hm2 => by
    obtain ⟨a, e, hm3⟩ := run_of_lft hm2
    refine ⟨x, xs, rfl, .of (by rw [e2, All.ints r2]), ?_, fun n h1 h2 => q a _ S2 H2 s2 g2 p2 (by rw [max_one e h1 h2]; rfl) hm3⟩
    cases xs with
    | nil => cases e
    | cons _ _ => simp
theorem c_min2 {mA mB : (Int → μ β) → μ β} (ha : Ev p ta σ S H mA rI) (hb : Ev p tb σ S H mB rI) : Ev p (tCB (fun xs H Q => ∃ i j, xs = [.int i, .int j] ∧ Q (.int (if j < i then j else i)) H) (tCons ta (tCons tb tNil))) σ S H (fun k => mA fun i => mB fun j => k (if j < i then j else i)) rI := fun S1 H1 s g ps k z hm Q q =>
  ha S1 H1 s g ps _ z hm _ fun i v S2 H2 s2 g2 p2 r2 hm2 => hb S2 H2 s2 (g.tr g2) p2 _ z hm2 _ fun j u S3 H3 s3 g3 p3 r3 hm3 => ⟨i, j, by rw [show v = .int i from r2, show u = .int j from r3], q _ _ S3 H3 s3 (g2.tr g3) p3 rfl hm3⟩
theorem c_max2 {mA mB : (Int → μ β) → μ β} (ha : Ev p ta σ S H mA rI) (hb : Ev p tb σ S H mB rI) : Ev p (tCB (fun xs H Q => ∃ i j, xs = [.int i, .int j] ∧ Q (.int (if j > i then j else i)) H) (tCons ta (tCons tb tNil))) σ S H (fun k => mA fun i => mB fun j => k (if j > i then j else i)) rI := fun S1 H1 s g ps k z hm Q q =>
  ha S1 H1 s g ps _ z hm _ fun i v S2 H2 s2 g2 p2 r2 hm2 => hb S2 H2 s2 (g.tr g2) p2 _ z hm2 _ fun j u S3 H3 s3 g3 p3 r3 hm3 => ⟨i, j, by rw [show v = .int i from r2, show u = .int j from r3], q _ _ S3 H3 s3 (g2.tr g3) p3 rfl hm3⟩
theorem c_abs {m : (Int → μ β) → μ β} (h : Ev p te σ S H m rI) : Ev p (tCB (fun xs H Q => ∃ i, xs = [.int i] ∧ Q (.int (if i < 0 then -i else i)) H) (tCons te tNil)) σ S H (fun k => m fun i => k (if i < 0 then -i else i)) rI := fun S1 H1 s g ps k z hm Q q =>
  h S1 H1 s g ps _ z hm _ fun i v S2 H2 s2 g2 p2 r2 hm2 => ⟨i, by rw [show v = .int i from r2], q _ _ S2 H2 s2 g2 p2 rfl hm2⟩
theorem c_int {m : (Int → μ β) → μ β} (h : Ev p te σ S H m rI) : Ev p (tCB (fun xs H Q => (∃ i, xs = [.int i] ∧ Q (.int i) H) ∨ ∃ k, xs = [.bl k] ∧ Q (.int (if k then 1 else 0)) H) (tCons te tNil)) σ S H (fun k => m fun i => k i) rI := fun S1 H1 s g ps k z hm Q q =>
  h S1 H1 s g ps _ z hm _ fun i v S2 H2 s2 g2 p2 r2 hm2 => .inl ⟨i, by rw [show v = .int i from r2], q _ _ S2 H2 s2 g2 p2 rfl hm2⟩
theorem c_intB {m : (Bool → μ β) → μ β} (h : Ev p te σ S H m rB) : Ev p (tCB (fun xs H Q => (∃ i, xs = [.int i] ∧ Q (.int i) H) ∨ ∃ k, xs = [.bl k] ∧ Q (.int (if k then 1 else 0)) H) (tCons te tNil)) σ S H (fun k => m fun b => k (if b then 1 else 0)) rI := fun S1 H1 s g ps k z hm Q q =>
  h S1 H1 s g ps _ z hm _ fun b v S2 H2 s2 g2 p2 r2 hm2 => .inr ⟨b, by rw [show v = .bl b from r2], q _ _ S2 H2 s2 g2 p2 rfl hm2⟩
theorem c_all {m : (List Bool → μ β) → μ β} (h : EvR p te σ S H m (aAll rB)) : Ev p (tCB (rAll K) (tCons te tNil)) σ S H (fun k => m fun xs => k (xs.all id)) rB := fun S1 H1 s g ps k z hm Q q =>
  h S1 H1 s g ps _ z hm _ fun xs x vs S2 H2 s2 g2 p2 e2 m2 r2 hm2 => ⟨x, xs, rfl, .of (by rw [e2, All.bools r2]), q _ _ S2 H2 s2 g2 p2 rfl hm2⟩
theorem c_any {m : (List Bool → μ β) → μ β} (h : EvR p te σ S H m (aAll rB)) : Ev p (tCB (rAny K) (tCons te tNil)) σ S H (fun k => m fun xs => k (xs.any id)) rB := fun S1 H1 s g ps k z hm Q q =>
  h S1 H1 s g ps _ z hm _ fun xs x vs S2 H2 s2 g2 p2 e2 m2 r2 hm2 => ⟨x, xs, rfl, .of (by rw [e2, All.bools r2]), q _ _ S2 H2 s2 g2 p2 rfl hm2⟩
def rTupOf (K : PySem.W.Frag) : List V → Hp → VK → Prop := fun xs H Q => ∃ p ys, xs = [.ref p] ∧ ((SqL K H p ys ∧ ∀ l, H l = none → Q (.ref l) (upd H l (.tup ys))) ∨ (SqT K H p ys ∧ Q (.ref p) H))
theorem c_tup {A : Rq α} [Mo A] {m : (α → μ β) → μ β} (h : EvR p te σ S H m A) : Ev p (tCB (rTupOf K) (tCons te tNil)) σ S H m (rT K A) := fun S1 H1 s g ps k z hm Q q =>
  h S1 H1 s g ps _ z hm _ fun xs x vs S2 H2 s2 g2 p2 e2 m2 r2 hm2 => ⟨x, vs, rfl, .inl ⟨.of e2, fun y hy =>
    have g3 : Gm p.M S2 H2 (upd S2 y (.tup vs)) (upd H2 y (.tup vs)) := Gm.new g2.i hy
    q xs _ _ _ s2 (g2.tr g3) (p2.go (Gm.new g2.i hy)) ⟨y, vs, rfl, .of upd_same, Mo.mo g3.s r2⟩ hm2⟩⟩
theorem l_list {A : Rq α} {m : (α → μ β) → μ β} (h : EvR p te σ S H m A) : EvL p (tCB (fun xs H Q => ∃ p ys, xs = [.ref p] ∧ (SqL K H p ys ∨ SqT K H p ys) ∧ ∀ l, H l = none → Q (.ref l) (upd H l (.lst ys))) (tCons te tNil)) σ S H m A := fun S1 H1 s g ps k z hm Q q =>
  h S1 H1 s g ps _ z hm _ fun xs x vs S2 H2 s2 g2 p2 e2 m2 r2 hm2 => ⟨x, vs, rfl, .inl (.of e2), fun y hy => by
    have n1 : H1 y = none := by
      cases e : H1 y with
      | none => rfl
      | some u => obtain ⟨u', e'⟩ := g2.t y u e; rw [hy] at e'; cases e'
    exact q xs y vs S2 _ s2 (g2.tr (Gm.own g2.i hy)) (p2.go (Gm.own g2.i hy)) n1 upd_same (g2.i.no hy) (new_nM p2 hy) r2 hm2⟩
theorem l_listT {A : Rq α} {m : (α → μ β) → μ β} (h : Ev p te σ S H m (rT K A)) : EvL p (tCB (fun xs H Q => ∃ p ys, xs = [.ref p] ∧ (SqL K H p ys ∨ SqT K H p ys) ∧ ∀ l, H l = none → Q (.ref l) (upd H l (.lst ys))) (tCons te tNil)) σ S H m A := fun S1 H1 s g ps k z hm Q q =>
  h S1 H1 s g ps _ z hm _ fun xs v S2 H2 s2 g2 p2 ⟨x, vs, e2, h2, r2⟩ hm2 => ⟨x, vs, by rw [e2], .inr (sqT_ex g2.i h2), fun y hy => by
    have n1 : H1 y = none := by
      cases e : H1 y with
      | none => rfl
      | some u => obtain ⟨u', e'⟩ := g2.t y u e; rw [hy] at e'; cases e'
    exact q xs y vs S2 _ s2 (g2.tr (Gm.own g2.i hy)) (p2.go (Gm.own g2.i hy)) n1 upd_same (g2.i.no hy) (new_nM p2 hy) r2 hm2⟩
/-- lists one behind another -/
theorem l_cat {R : Rp α} [Mo R] {mA mB : (List α → μ β) → μ β} (ha : EvR p ta σ S H mA (aAll R)) (hb : EvR p tb σ S H mB (aAll R)) : EvL p (tOp rCat ta tb) σ S H (fun k => mA fun xs => mB fun ys => Mir.lft (grd (xs.length + ys.length ≤ 16000000)) >>= fun _ => k (xs ++ ys)) (aAll R) := fun S1 H1 s g ps k z hm Q q =>
  ha S1 H1 s g ps _ z hm _ fun xs x vs S2 H2 s2 g2 p2 e2 m2 r2 hm2 => hb S2 H2 s2 (g.tr g2) p2 _ z hm2 _ fun ys y us S3 H3 s3 g3 p3 e3 m3 r3 hm3 => by
    obtain ⟨_, e, hm4⟩ := run_of_lft hm3
    have hl := grd_of e
    have a2 := All.mo g3.s (show All R S2 xs vs from r2)
    have a3 : All R S3 ys us := r3
    refine ⟨x, y, vs, us, rfl, rfl, g3.h _ _ m2 e2, e3, by rw [← a2.len, ← a3.len, sizeLine_eq]; omega, fun l hl => ?_⟩
    have n1 : H1 l = none := by
      cases e : H1 l with
      | none => rfl
      | some u => obtain ⟨u', e'⟩ := (g2.tr g3).t l u e; rw [hl] at e'; cases e'
    exact q _ l _ S3 _ s3 ((g2.tr g3).tr (Gm.own g3.i hl)) (p3.go (Gm.own g3.i hl)) n1 upd_same (g3.i.no hl) (new_nM p3 hl) (a2.app a3) hm4
theorem All.reps {R : Rp α} {xs : List α} {vs : List V} (h : All R S xs vs) : ∀ n : Nat, All R S (List.replicate n xs).flatten (List.replicate n vs).flatten
  | 0 => .nil
  | n + 1 => by
    rw [List.replicate_succ, List.replicate_succ, List.flatten_cons, List.flatten_cons]
    exact h.app (All.reps h n)
def RpB (n : Nat) (k : Int) : Prop := -(2 ^ 62) ≤ k ∧ k < 2 ^ 62 ∧ n * k.toNat ≤ 16000000
instance (n : Nat) (k : Int) : Decidable (RpB n k) := inferInstanceAs (Decidable (_ ∧ _))
theorem l_rep {R : Rp α} [Mo R] {mA : (List α → μ β) → μ β} {mB : (Int → μ β) → μ β} (ha : EvR p ta σ S H mA (aAll R)) (hb : Ev p tb σ S H mB rI) : EvL p (tOp rRep ta tb) σ S H (fun k => mA fun xs => mB fun n => Mir.lft (grd (RpB xs.length n)) >>= fun _ => k (List.replicate n.toNat xs).flatten) (aAll R) := fun S1 H1 s g ps k z hm Q q =>
  ha S1 H1 s g ps _ z hm _ fun xs x vs S2 H2 s2 g2 p2 e2 m2 r2 hm2 => hb S2 H2 s2 (g.tr g2) p2 _ z hm2 _ fun n u S3 H3 s3 g3 p3 r3 hm3 => by
    obtain ⟨_, e, hm4⟩ := run_of_lft hm3
    have hl := grd_of e
    have a2 := All.mo g3.s (show All R S2 xs vs from r2)
    cases (show u = .int n from r3)
    have l1 := hl.1
    have l2 := hl.2.1
    have l3 := hl.2.2
    rw [a2.len] at l3
    refine ⟨x, n, vs, rfl, rfl, g3.h _ _ m2 e2, by omega, by omega, by rw [sizeLine_eq]; omega, fun l hl => ?_⟩
    have n1 : H1 l = none := by
      cases e : H1 l with
      | none => rfl
      | some u => obtain ⟨u', e'⟩ := (g2.tr g3).t l u e; rw [hl] at e'; cases e'
    exact q _ l _ S3 _ s3 ((g2.tr g3).tr (Gm.own g3.i hl)) (p3.go (Gm.own g3.i hl)) n1 upd_same (g3.i.no hl) (new_nM p3 hl) (a2.reps _) hm4
/-- x in (a, b), x in xs: whole numbers -/
theorem inV_ints (x : Int) (xs : List Int) : inV (.int x) (xs.map V.int) = xs.contains x := by
  unfold inV
  rw [List.any_map]
  rw [List.contains_eq_any_beq]
  congr 1
  funext y
  show (y == x) = (x == y)
  rw [Bool.beq_comm]
theorem flat_ints (xs : List Int) : (xs.map V.int).all flatV = true := by
  rw [List.all_map]
  simp [flatV]
theorem e_inL {neg : Bool} {mA : (Int → μ β) → μ β} {mB : (List Int → μ β) → μ β} (ha : Ev p ta σ S H mA rI) (hb : EvR p tb σ S H mB (aAll rI)) : Ev p (tOp (rIn K neg) ta tb) σ S H (fun k => mA fun x => mB fun xs => k (if neg = true then !xs.contains x else xs.contains x)) rB := fun S1 H1 s g ps k z hm Q q =>
  ha S1 H1 s g ps _ z hm _ fun x v S2 H2 s2 g2 p2 r2 hm2 => hb S2 H2 s2 (g.tr g2) p2 _ z hm2 _ fun xs y us S3 H3 s3 g3 p3 e3 m3 r3 hm3 => by
    cases (show v = .int x from r2)
    have e4 := All.ints r3
    subst e4
    exact ⟨y, _, rfl, .inl (.of e3), rfl, flat_ints xs, q _ _ S3 H3 s3 (g2.tr g3) p3 (by rw [inV_ints]; rfl) hm3⟩
theorem e_inT {neg : Bool} {mA : (Int → μ β) → μ β} {mB : (List Int → μ β) → μ β} (ha : Ev p ta σ S H mA rI) (hb : Ev p tb σ S H mB (rT K (aAll rI))) : Ev p (tOp (rIn K neg) ta tb) σ S H (fun k => mA fun x => mB fun xs => k (if neg = true then !xs.contains x else xs.contains x)) rB := fun S1 H1 s g ps k z hm Q q =>
  ha S1 H1 s g ps _ z hm _ fun x v S2 H2 s2 g2 p2 r2 hm2 => hb S2 H2 s2 (g.tr g2) p2 _ z hm2 _ fun xs u S3 H3 s3 g3 p3 ⟨y, us, e3, h3, r3⟩ hm3 => by
    cases (show v = .int x from r2)
    have e4 := All.ints r3
    subst e4
    exact ⟨y, _, e3, .inr (sqT_ex g3.i h3), rfl, flat_ints xs, q _ _ S3 H3 s3 (g2.tr g3) p3 (by rw [inV_ints]; rfl) hm3⟩

/-! ### repr -/
class Dt (K : PySem.W.Frag) {α β : Type} (R : α → β → Hp → Prop) (δ : outParam (α → PyData)) : Prop where
  dt : True
/-- what a value is as data -/
def isD (K : PySem.W.Frag) (R : Rp α) (d : α → PyData) : Prop := ∀ a v S H, R a v S → Ex S H → Dp K H v (d a)
def isDs (K : PySem.W.Frag) (A : Rq α) (d : α → List PyData) : Prop := ∀ a vs S H, A a vs S → Ex S H → DpAll K H vs (d a)
theorem d_I : isD K rI .int := fun a v _ _ h _ => by rw [show v = .int a from h]; exact .int a
theorem d_B : isD K rB .bool := fun a v _ _ h _ => by rw [show v = .bl a from h]; exact .bl a
theorem d_S : isD K rS .str := fun a v _ _ h _ => by rw [show v = .str a from h]; exact .str a
theorem d_N : isD K rN fun _ => .none := fun a v _ _ h _ => by rw [show v = .non from h]; exact .non
def dO (d : α → PyData) : Option α → PyData
  | none => .none
  | some a => d a
theorem d_O {R : Rp α} {d : α → PyData} (h : isD K R d) : isD K (rO R) (dO d) := fun a v S H r e => by
  cases a with
  | none => rw [show v = .non from r]; exact .non
  | some x => exact h x v S H r e
def dU (d : α → PyData) (d' : γ → PyData) : α ⊕ γ → PyData
  | .inl a => d a
  | .inr b => d' b
theorem d_U {R : Rp α} {R' : Rp γ} {d : α → PyData} {d' : γ → PyData} (h : isD K R d) (h' : isD K R' d') : isD K (rU R R') (dU d d') := fun a v S H r e => by
  cases a with
  | inl x => exact h x v S H r e
  | inr x => exact h' x v S H r e
theorem ds_nil : isDs K aNil fun _ => [] := fun _ vs _ _ h _ => by rw [show vs = [] from h]; exact .nil
theorem ds_one {R : Rp α} {d : α → PyData} (h : isD K R d) : isDs K (aOne R) fun a => [d a] := fun a vs S H ⟨v, e1, r⟩ e => by rw [e1]; exact .cons (h a v S H r e) .nil
theorem ds_cons {R : Rp α} {A : Rq γ} {d : α → PyData} {ds : γ → List PyData} (h : isD K R d) (h' : isDs K A ds) : isDs K (aCons R A) fun a => d a.1 :: ds a.2 := fun a vs S H ⟨v, r, e1, r1, r2⟩ e => by rw [e1]; exact .cons (h _ v S H r1 e) (h' _ r S H r2 e)
theorem ds_all {R : Rp α} {d : α → PyData} (h : isD K R d) : isDs K (aAll R) fun xs => xs.map d := fun xs vs S H r e => by
  have go : ∀ {xs : List α} {vs : List V}, All R S xs vs → DpAll K H vs (xs.map d) := by
    intro xs vs r
    induction r with
    | nil => exact .nil
    | cons r _ ih => exact .cons (h _ _ S H r e) ih
  exact go r
theorem d_T {A : Rq α} {ds : α → List PyData} (h : isDs K A ds) : isD K (rT K A) fun a => .tuple (ds a) := fun a v S H ⟨x, vs, e1, h1, r⟩ e => by rw [e1]; exact .tup (sqT_ex e h1) (h a vs S H r e)
theorem d_L {A : Rq α} {ds : α → List PyData} (h : isDs K A ds) : isD K (rL A) fun a => .list (ds a) := fun a v S H ⟨x, vs, e1, h1, r⟩ e => by rw [e1]; exact .lst (.of (e _ _ h1)) (h a vs S H r e)
end

/-! ### repr, ints of some thousand figures too -/
section
variable {prog : Program} {w : World} {A : Around} {E : Value → Shared → Prop} {s : Shared} {h₀ : Heap}
theorem lt_lim {a : Nat} (h : a.log2 < 12900) : a < 10 ^ 4300 := Nat.lt_of_lt_of_le (PyProof.Rows.lt_of_log2 h) PyProof.Rows.pow_lo
set_option maxRecDepth 100000 in
theorem call_int_reprB {a : Int} {t : Tok} {Q : Value → Shared → Prop} (hn : s.heap.NoDigits) (ha : a.natAbs.log2 < 12900) (h : Q (.str (toString a) s.toks) { s with toks := s.toks + 1 }) :
    wpAny (model prog w) A (call (.builtin "int.__repr__") [.int a t]) Q E s := by
  refine wpAny_call (codeAny_call_builtin F.slot_int_repr.plain F.entry_int_repr (F.slot_int_repr.check _ _ _ _ _ _ _ _ (typeIs_int _ a t) (F.args_int_repr_1 _) ?_))
  unfold Builtin.«int.__repr__»
  show wpAny _ _ (do let r ← Builtin.overDigitLimit? a; _) _ _ s
  refine wpAny_bind (overDigitLimit_any hn (fun hlt => ?_) (fun hge => ?_))
  · exact wpAny_bind (wpAny_mkStr (wpAny_pure h) (by have e := int_text_length_le (k := 12900) (by decide) ha; rw [PySem.ofString_length, sizeLine_eq]; omega))
  · have hlt := lt_lim ha
    exact absurd hlt (Nat.not_lt.mpr hge)
theorem pyReprObj_intB {a : Int} {t : Tok} {Q : Value → Shared → Prop} (hn : s.heap.NoDigits) (ha : a.natAbs.log2 < 12900) (h : Q (.str (toString a) s.toks) { s with toks := s.toks + 1 }) : wpAny (model prog w) A (pyReprObj (.int a t)) Q E s := by
  unfold pyReprObj
  have hv : ([.int a t] : List Value).any Value.onHeap = false := rfl
  simp only [cRoomFor, hv, Bool.false_eq_true, if_false, pure_bind]
  refine wpAny_bind (wpAny_specialOf (name := Str.ofString "__repr__") (typeIs_int s a t) F.slot_int_repr.lookup ?_)
  refine wpAny_bind (m := callSpecialIfBound? (.int a t) (Str.ofString "__repr__")) (wpAny_callSpecialIfBound?_slot (name := Str.ofString "__repr__") (typeIs_int s a t) F.slot_int_repr (call_int_reprB hn ha ?_))
  exact wpAny_bind (wpAny_isInstance (T := "str") (b := true) rfl isSubtype_str_str (wpAny_pure h))
theorem repr_of_intB {a : Int} {t : Tok} {Q : Value → Shared → Prop} (hn : s.heap.NoDigits) (ha : a.natAbs.log2 < 12900) (h : Q (.str (toString a) s.toks) { s with toks := s.toks + 1 }) : wpAny (model prog w) A (call (.builtin "repr") [.int a t]) Q E s := by
  refine Calls.call_function_entry F.kind_repr F.plain_repr F.entry_repr (F.args_repr1 _) ?_
  unfold Builtin.«repr»
  have hv : ([.int a t] : List Value).any Value.onHeap = false := rfl
  refine wpAny_bind (m := oneArg "repr" _) (wpAny_pure ?_)
  simp only [cRoomFor, hv, Bool.false_eq_true, if_false, pure_bind]
  refine wpAny_bind (wpAny_specialOf (name := Str.ofString "__repr__") (typeIs_int s a t) F.slot_int_repr.lookup ?_)
  refine wpAny_bind (m := callSpecialIfBound? (.int a t) (Str.ofString "__repr__")) (wpAny_callSpecialIfBound?_slot (name := Str.ofString "__repr__") (typeIs_int s a t) F.slot_int_repr (call_int_reprB hn ha ?_))
  refine wpAny_bind (wpAny_isInstance (T := "str") (b := true) rfl isSubtype_str_str ?_)
  exact wpAny_pure ⟨_, rfl, h⟩
theorem reprK_intB {a : Int} (t : Tok) (hn : h₀.NoDigits) (ha : a.natAbs.log2 < 12900) (as : List Addr) (d : Nat) : ReprK prog w as h₀ d (.int a t) (toString a) := fun n hz A g E s Q _ _ _ hk hQ => by
  have hn' : n ≤ sizeLine := by omega
  rw [pyReprUnder_leaf (v := .int a t) hn' (fun _ e => nomatch e)]
  unfold pyRepr
  exact wpAny_bind (pyReprObj_intB (hn.keeps hk) ha (wpAny_pure (hQ s.heap _ fun _ _ e => e)))
end
mutual
/-- what repr can write here -/
def shB : PyData → Bool
  | .none | .bool _ | .str _ => true
  | .int i => decide (i.natAbs.log2 < 12900)
  | .list xs | .tuple xs => shsB xs
  | .dict _ => false
def shsB : List PyData → Bool
  | [] => true
  | x :: xs => shB x && shsB xs
end
section
variable {prog : Program} {w : World} {h₀ : Heap}
mutual
theorem reprK_of (hn : h₀.NoDigits) : ∀ {v : Value} {d : PyData} {as : List Addr}, Reads h₀ v d as → shB d = true → d.shown.length ≤ sizeLine → ∃ bs, ReadAtMost h₀ d.depth bs ∧ ReprK prog w bs h₀ d.depth v d.shown
  | _, _, _, .none, _, _ => ⟨[], (fun _ h => nomatch h), by simp only [PyData.shown]; exact .of_is ReprIs.none _ _ _⟩
  | _, _, _, .bool b, _, _ => ⟨[], (fun _ h => nomatch h), by simp only [PyData.shown]; exact .of_is (ReprIs.bool b) _ _ _⟩
  | _, _, _, .int i t, hs, _ => ⟨[], (fun _ h => nomatch h), by simp only [PyData.shown]; exact reprK_intB t hn (by simpa [shB] using hs) _ _⟩
  | _, _, _, .str x t, _, hz => ⟨[], (fun _ h => nomatch h), by simp only [PyData.shown]; exact .of_is (ReprIs.str x t (by simpa only [PyData.shown] using hz)) _ _ _⟩
  | _, _, _, .list (a := a) (vs := vs) (xs := xs) h1 h2 h3 h4, hs, hz => by
    have hz' : (listText (PyData.shownAll xs)).length ≤ sizeLine := by simpa only [PyData.shown] using hz
    obtain ⟨bs, hb, hk⟩ := reprsK_of hn h4 (by simpa [shB] using hs) (fun t ht => Nat.le_trans (listText_mem_le ht) hz')
    have r : Reads h₀ (.ref a) (.list xs) _ := .list h1 h2 h3 h4
    have hna : a ∉ bs := not_mem_of_deeper r (by simp only [PyData.depth]; omega) hb
    refine ⟨a :: bs, ReadAtMost.cons r (by simp only [PyData.depth]; omega) hb, ?_⟩
    simp only [PyData.depth, PyData.shown]
    obtain ⟨l⟩ := vs
    cases l with
    | nil =>
      have h4' : ReadsAll h₀ [] xs _ := h4
      cases h4'
      simp only [PyData.shownAll, listText_nil]
      exact ReprK.listEmpty h1 h2 h3
    | cons x l => exact ReprK.list h1 h2 h3 hna (by simpa using hk.length_eq) (fun i y e => hk.item i y (by simpa using e))
  | _, _, _, .tuple (a := a) (xs := xs) h1 h2 h3 h4, hs, hz => by
    have hz' : (tupleText (PyData.shownAll xs)).length ≤ sizeLine := by simpa only [PyData.shown] using hz
    obtain ⟨bs, hb, hk⟩ := reprsK_of hn h4 (by simpa [shB] using hs) (fun t ht => Nat.le_trans (tupleText_mem_le ht) hz')
    have r : Reads h₀ (.ref a) (.tuple xs) _ := .tuple h1 h2 h3 h4
    have hna : a ∉ bs := not_mem_of_deeper r (by simp only [PyData.depth]; omega) hb
    refine ⟨a :: bs, ReadAtMost.cons r (by simp only [PyData.depth]; omega) hb, ?_⟩
    simp only [PyData.depth, PyData.shown]
    exact ReprK.tuple h1 h2 h3 hna hk
  | _, _, _, .dict _ _ _ _ _, hs, _ => by simp [shB] at hs
theorem reprsK_of (hn : h₀.NoDigits) : ∀ {vs : List Value} {ds : List PyData} {as : List Addr}, ReadsAll h₀ vs ds as → shsB ds = true → (∀ t ∈ PyData.shownAll ds, t.length ≤ sizeLine) →
    ∃ bs, ReadAtMost h₀ (PyData.depthAll ds) bs ∧ ReprAllK prog w bs h₀ (PyData.depthAll ds) vs (PyData.shownAll ds)
  | _, _, _, .nil, _, _ => ⟨[], (fun _ h => nomatch h), by simp only [PyData.shownAll]; exact .nil⟩
  | _, _, _, .cons (d := d) (ds := ds) r rs, hs, hz => by
    have hs' : shB d = true ∧ shsB ds = true := by simpa [shsB] using hs
    obtain ⟨b1, hb1, k1⟩ := reprK_of hn r hs'.1 (hz _ (by simp only [PyData.shownAll]; exact List.mem_cons_self ..))
    obtain ⟨b2, hb2, k2⟩ := reprsK_of hn rs hs'.2 (fun t ht => hz t (by simp only [PyData.shownAll]; exact List.mem_cons_of_mem _ ht))
    refine ⟨b1 ++ b2, ?_, ?_⟩
    · intro b hm
      simp only [PyData.depthAll]
      rcases List.mem_append.mp hm with hm | hm
      · obtain ⟨d', as', r', hd'⟩ := hb1 b hm
        exact ⟨d', as', r', Nat.le_trans hd' (Nat.le_max_left _ _)⟩
      · obtain ⟨d', as', r', hd'⟩ := hb2 b hm
        exact ⟨d', as', r', Nat.le_trans hd' (Nat.le_max_right _ _)⟩
    · simp only [PyData.depthAll, PyData.shownAll]
      exact .cons ((k1.more fun b hb => List.mem_append_left _ hb).level_le (Nat.le_max_left _ _)) (k2.more_le (fun b hb => List.mem_append_right _ hb) (Nat.le_max_right _ _))
end
theorem repr_readsB {a : Addr} {d : PyData} {as : List Addr} {A : Around} {E : Value → Shared → Prop} {s : Shared} {Q : Value → Shared → Prop} (hn : h₀.NoDigits) (r : Reads h₀ (.ref a) d as) (hs : shB d = true) (hg : A.guards = some []) (hu : A.units + (d.depth + 1) < cLine) (hk0 : ∀ b o, h₀.get? b = some o → s.heap.get? b = some o)
    (hQ : ∀ h' u tk, (∀ b o, s.heap.get? b = some o → h'.get? b = some o) → Q (.str d.shown u) { s with heap := h', toks := tk }) (hsz : d.shown.length ≤ sizeLine) : wpAny (model prog w) A (call (.builtin "repr") [.ref a]) Q E s := by
  have sh : ∃ T idr, ShowsBy prog w h₀ a d T idr := by
    cases r with
    | list h1 h2 h3 h4 =>
      rename_i o vs n xs bs₀
      have hz' : (listText (PyData.shownAll xs)).length ≤ sizeLine := by simpa only [PyData.shown] using hsz
      obtain ⟨bs, hb, hk⟩ := reprsK_of (prog := prog) (w := w) hn h4 (by simpa [shB] using hs) (fun t ht => Nat.le_trans (listText_mem_le ht) hz')
      have hna : a ∉ bs := not_mem_of_deeper (.list h1 h2 h3 h4) (by simp only [PyData.depth]; omega) hb
      refine ⟨"list", "list.__repr__", F.slot_list_repr.toG, F.slot_list_str, F.slot_list_format, fun s hk0 => ⟨o, hk0 _ _ h1, h2⟩, fun A E s Q hg hu hk0 hQ => ?_⟩
      simp only [PyData.depth] at hu
      simp only [PyData.shown] at hQ
      obtain ⟨l⟩ := vs
      cases l with
      | nil =>
        have h4' : ReadsAll h₀ [] xs _ := h4
        cases h4'
        simp only [PyData.shownAll, listText_nil] at hQ
        exact call_list_repr_empty ⟨o, hk0 _ _ h1, h2⟩ (hk0 _ _ h1) h3 (hQ s.heap _ _ fun _ _ e => e)
      | cons x l =>
        exact call_list_reprK h1 h2 h3 hna (by simpa using hk.length_eq) (fun i y e => hk.item i y (by simpa using e)) hg (fun b _ => Clear.nil b) hu hk0 hQ hz'
    | tuple h1 h2 h3 h4 =>
      rename_i o vs n xs
      have hz' : (tupleText (PyData.shownAll xs)).length ≤ sizeLine := by simpa only [PyData.shown] using hsz
      obtain ⟨bs, hb, hk⟩ := reprsK_of (prog := prog) (w := w) hn h4 (by simpa [shB] using hs) (fun t ht => Nat.le_trans (tupleText_mem_le ht) hz')
      have hna : a ∉ bs := not_mem_of_deeper (.tuple h1 h2 h3 h4) (by simp only [PyData.depth]; omega) hb
      refine ⟨"tuple", "tuple.__repr__", F.slot_tuple_repr, F.slot_tuple_str, F.slot_tuple_format, fun s hk0 => ⟨o, hk0 _ _ h1, h2⟩, fun A E s Q hg hu hk0 hQ => ?_⟩
      simp only [PyData.depth] at hu
      simp only [PyData.shown] at hQ
      exact call_tuple_reprK h1 h2 h3 hna hk hg (fun b _ => Clear.nil b) hu hk0 hQ hz'
    | dict _ _ _ _ _ => simp [shB] at hs
  obtain ⟨T, idr, S⟩ := sh
  exact call_repr_slot (by omega) (S.typeIs s hk0) S.slotRepr (S.call A.in1 E s _ hg (by show A.units + 1 + d.depth < cLine; omega) hk0 fun h' u tk hk => ⟨_, _, rfl, hQ h' u tk hk⟩)
end
section
variable {K : PySem.W.Frag}
mutual
/-- an upper bound of what is written of a value; too much where it can't be written -/
def wt : PyData → Nat
  | .none => 10
  | .bool _ => 10
  | .int i => if i.natAbs < 10 ^ 40 then 50 else if i.natAbs.log2 < 12900 then 13000 else 100000000
  | .str x => if x.cps.toList.all (fun c => decide (c < 16 ^ 8)) = true then 10 * x.length + 2 else 100000000
  | .list xs => wts xs + 3
  | .tuple xs => wts xs + 3
  | .dict _ => 100000000
def wts : List PyData → Nat
  | [] => 0
  | x :: xs => wt x + 2 + wts xs
end
theorem str_len_of (x : String) : (Str.ofString x).length = x.length := PySem.ofString_length x
mutual
theorem wt_ok : ∀ d : PyData, wt d < 100000000 → shB d = true ∧ d.shown.length ≤ wt d
  | .none, _ => ⟨by simp only [shB], by simp only [PyData.shown, wt]; decide +kernel⟩
  | .bool b, _ => ⟨by simp only [shB], by simp only [PyData.shown, wt]; cases b <;> decide +kernel⟩
  | .int i, h => by
    simp only [wt] at h ⊢
    by_cases h1 : i.natAbs < 10 ^ 40
    · have e := int_text_length_le10 (k := 40) (by decide) h1
      refine ⟨?_, ?_⟩
      · simp only [shB, decide_eq_true_eq]
        exact PySem.Flt.log2_lt_of (by decide) (Nat.lt_trans h1 (by decide +kernel))
      · simp only [PyData.shown]
        rw [str_len_of, if_pos h1]
        omega
    · rw [if_neg h1] at h ⊢
      by_cases h2 : i.natAbs.log2 < 12900
      · have e := int_text_length_le (k := 12900) (by decide) h2
        refine ⟨?_, ?_⟩
        · simp only [shB, decide_eq_true_eq]
          exact h2
        · simp only [PyData.shown]
          rw [str_len_of, if_pos h2]
          omega
      · rw [if_neg h2] at h
        exact absurd h (by decide)
  | .str x, h => by
    simp only [wt] at h ⊢
    by_cases h1 : x.cps.toList.all (fun c => decide (c < 16 ^ 8)) = true
    · refine ⟨by simp only [shB], ?_⟩
      simp only [PyData.shown]
      rw [if_pos h1]
      exact StrLaws.reprText_len x fun c hc => by
        have := List.all_eq_true.mp h1 c hc
        exact of_decide_eq_true this
    · rw [if_neg h1] at h
      exact absurd h (by decide)
  | .list xs, h => by
    simp only [wt] at h ⊢
    obtain ⟨h1, h3⟩ := wts_ok xs (by omega)
    refine ⟨by simpa only [shB] using h1, ?_⟩
    simp only [PyData.shown]
    have := listText_len_le (PyData.shownAll xs)
    omega
  | .tuple xs, h => by
    simp only [wt] at h ⊢
    obtain ⟨h1, h3⟩ := wts_ok xs (by omega)
    refine ⟨by simpa only [shB] using h1, ?_⟩
    simp only [PyData.shown]
    have := tupleText_len_le (PyData.shownAll xs)
    omega
  | .dict _, h => by simp only [wt] at h; exact absurd h (by decide)
theorem wts_ok : ∀ xs : List PyData, wts xs < 100000000 → shsB xs = true ∧ ((PyData.shownAll xs).map (·.length)).sum + 2 * (PyData.shownAll xs).length ≤ wts xs
  | [], _ => ⟨by simp only [shsB], by simp only [PyData.shownAll, wts]; decide⟩
  | x :: xs, h => by
    simp only [wts] at h ⊢
    obtain ⟨a1, a3⟩ := wt_ok x (by omega)
    obtain ⟨b1, b3⟩ := wts_ok xs (by omega)
    refine ⟨by simp only [shsB, a1, b1, Bool.and_self], ?_⟩
    simp only [PyData.shownAll, List.map_cons, List.sum_cons, List.length_cons]
    omega
end
/-- what repr takes -/
def OkD (d : PyData) : Prop := d.depth ≤ 50 ∧ wt d ≤ 16000000
instance (d : PyData) : Decidable (OkD d) := inferInstanceAs (Decidable (_ ∧ _))
def rRepr (K : PySem.W.Frag) : List V → Hp → VK → Prop := fun xs H Q => ∃ x d, xs = [x] ∧ Dp K H x d ∧ OkD d ∧ Q (.str d.shown) H
end
section
variable {X : Cx}
theorem call_repr {k : Nat} (hr : Room k X.A) (gd : X.A.guards = some []) (nd : X.base.NoDigits) : CallR X (.builtin "repr") (rRepr X.K) := by
  intro pins s σ H xs us Q I r h
  obtain ⟨x, d, rfl, hd, ok, q⟩ := h
  obtain ⟨u, rfl, ru⟩ := vals1 r
  obtain ⟨as, rd⟩ := Dp.reads I d x u hd ru
  obtain ⟨h1, h3⟩ := wt_ok d (by have := ok.2; omega)
  have hn : s.heap.NoDigits := nd.keeps I.bk
  have hz : d.shown.length ≤ sizeLine := by rw [sizeLine_eq]; have := ok.2; omega
  have hu := hr.units
  have hdp := ok.1
  have fin : ∀ {h' : Heap} {t : Tok} {tk : Nat}, (∀ b o, s.heap.get? b = some o → h'.get? b = some o) → EP X pins σ Q (.str d.shown t) { s with heap := h', toks := tk } :=
    fun {h' t tk} kp => ⟨.str d.shown, H, I.kept kp, ⟨t, rfl⟩, q⟩
  cases hd with
  | non =>
    obtain rfl : u = Value.none := ru
    exact PySem.P.repr_of_none (by have := fin (h' := s.heap) (t := s.toks) (tk := s.toks + 1) (fun _ _ e => e); rwa [PyData.shown_none] at this)
  | bl b =>
    obtain rfl : u = Value.bool b := ru
    refine PySem.P.repr_of_bool ?_
    have := fin (h' := s.heap) (t := s.toks) (tk := s.toks + 1) (fun _ _ e => e)
    rw [PyData.shown_bool] at this
    cases b <;> exact this
  | int i =>
    obtain ⟨t, rfl⟩ := ru
    refine repr_of_intB hn (by simpa [shB] using h1) ?_
    have := fin (h' := s.heap) (t := s.toks) (tk := s.toks + 1) (fun _ _ e => e)
    rwa [PyData.shown_int] at this
  | str z =>
    obtain ⟨t, rfl⟩ := ru
    refine PySem.P.repr_of_str ?_ (by rwa [PyData.shown_str] at hz)
    have := fin (h' := s.heap) (t := s.toks) (tk := s.toks + 1) (fun _ _ e => e)
    rwa [PyData.shown_str] at this
  | lst _ _ =>
    obtain rfl : u = Value.ref _ := ru
    exact repr_readsB hn rd h1 gd (by omega) (fun _ _ e => e) (fun h' t tk kp => fin kp) hz
  | tup _ _ =>
    obtain rfl : u = Value.ref _ := ru
    exact repr_readsB hn rd h1 gd (by omega) (fun _ _ e => e) (fun h' t tk kp => fin kp) hz
end
section
variable {μ : Type → Type} {τ : Type} [Mir μ τ] {α β γ δ ρ : Type} {p : Pt τ} {σ : St} {S H S0 H0 : Hp} {te ta tb : TE} {tt : TT} {K : PySem.W.Frag}
/-- what is written of a value, told by the value -/
def rW : Rp PyData := fun d v _ => v = .str d.shown
instance : Mo rW := ⟨fun _ h => h⟩
theorem c_repr {R : Rp α} {d : α → PyData} {m : (α → μ β) → μ β} (h : Ev p te σ S H m R) (hd : isD K R d) : Ev p (tCB (rRepr K) (tCons te tNil)) σ S H (fun k => m fun a => bnd (d a) fun w => Mir.lft (grd (OkD w)) >>= fun _ => k w) rW := fun S1 H1 s g ps k z hm Q q =>
  h S1 H1 s g ps _ z hm _ fun a v S2 H2 s2 g2 p2 r2 hm2 => by
    obtain ⟨_, e, hm3⟩ := run_of_lft (show Mir.run (Mir.lft (grd (OkD (d a))) >>= fun _ => k (d a)) s2 = some z from hm2)
    exact ⟨v, d a, rfl, hd a v S2 H2 r2 g2.i, grd_of e, q _ _ S2 H2 s2 g2 p2 rfl hm3⟩
open Classical in
/-- a condition that must hold, of any kind -/
noncomputable def grP (c : Prop) : Option Unit := if c then some () else none
theorem grP_of {c : Prop} {u : Unit} (h : grP c = some u) : c := by
  unfold grP at h
  split at h
  · assumption
  · cases h
theorem grP_ok {c : Prop} (h : c) : grP c = some () := by
  unfold grP
  rw [if_pos h]
/-- two writings that must be the same -/
theorem e_neW {mA mB : (PyData → μ β) → μ β} (ha : Ev p ta σ S H mA rW) (hb : Ev p tb σ S H mB rW) : Ev p (tOp rNe ta tb) σ S H (fun k => mA fun a => mB fun b => Mir.lft (grP (a = b)) >>= fun _ => k false) rB := fun S1 H1 s g ps k z hm Q q =>
  ha S1 H1 s g ps _ z hm _ fun a v S2 H2 s2 g2 p2 r2 hm2 => hb S2 H2 s2 (g.tr g2) p2 _ z hm2 _ fun b u S3 H3 s3 g3 p3 r3 hm3 => by
    obtain ⟨_, e, hm4⟩ := run_of_lft hm3
    have e1 := grP_of e
    subst e1
    have e2 : v = .str a.shown := r2
    have e3 : u = .str a.shown := r3
    subst e2
    subst e3
    exact ⟨rfl, q false _ S3 H3 s3 (g2.tr g3) p3 (by show V.bl _ = V.bl _; simp) hm4⟩
theorem e_eqW {mA mB : (PyData → μ β) → μ β} (ha : Ev p ta σ S H mA rW) (hb : Ev p tb σ S H mB rW) : Ev p (tOp rEq ta tb) σ S H (fun k => mA fun a => mB fun b => Mir.lft (grP (a = b)) >>= fun _ => k true) rB := fun S1 H1 s g ps k z hm Q q =>
  ha S1 H1 s g ps _ z hm _ fun a v S2 H2 s2 g2 p2 r2 hm2 => hb S2 H2 s2 (g.tr g2) p2 _ z hm2 _ fun b u S3 H3 s3 g3 p3 r3 hm3 => by
    obtain ⟨_, e, hm4⟩ := run_of_lft hm3
    have e1 := grP_of e
    subst e1
    have e2 : v = .str a.shown := r2
    have e3 : u = .str a.shown := r3
    subst e2
    subst e3
    exact ⟨rfl, q true _ S3 H3 s3 (g2.tr g3) p3 (by show V.bl _ = V.bl _; simp) hm4⟩
end
end Wk
set_option Elab.async false
set_option maxRecDepth 100000
set_option maxHeartbeats 4000000
set_option linter.all false
/-! W5: defs by their names -/
namespace Wk
open PySem L2
open PyProof.Rows hiding St
/-- the def x of the top stands as it was written -/
def DefAt (K : PySem.W.Frag) (mg : Str → Option Value) (x : Str) (st : Stmt) : Prop := ∃ f fd, Fun K x x st f fd ∧ mg x = some (.ref f)
theorem defAt {K : PySem.W.Frag} {h : Heap} {mg : Str → Option Value} {x : Str} {st : Stmt} {f : Addr} {od an : Option Addr} {sl : Array (Option Value)} {oc kV doc pm cd ct : Value} (X : K.In h) (G : h.Ns mainGlobals mg)
    (a : PySem.W.nsIn K mainGlobals x = some (some (.ref f))) (l : K.lookup f = some ⟨oc, od, .func (PySem.W.fnOf x x (defArgs st) (defBody st) (defScope st) .none kV doc pm an cd ct), sl⟩)
    (c : PySem.W.codeIn K cd x = true) (k : PySem.W.keepIn K (.ref f) = true) : DefAt K mg x st := ⟨f, _, fun_mk l c k, PySem.W.mg_of X G a⟩
/-- .. and keeps its promise -/
def Dk (P : Program) (w : World) (K : PySem.W.Frag) (mg : Str → Option Value) (base : Heap) (x gx : Str) (st : Stmt) (k : Nat) (ps : List Str) (sp : Sp) : Prop :=
  ∃ f fd, Fun K x x st f fd ∧ mg gx = some (.ref f) ∧ FnG P w K mg base CX0 k f fd ps sp ∧ Binds K fd ps []
theorem Fun.kb {K : PySem.W.Frag} {x qual : Str} {st : Stmt} {f : Addr} {fd : FuncData} {ps ks : List Str} {n : Nat} {ix : List Nat} (F : Fun K x qual st f fd)
    (h : ∀ (kV doc pm : Value) (an : Option Addr) (cdv ct : Value) (us ws : List Value), us.length = n → ws.length = ks.length → bindArgs (PySem.W.fnOf x qual (defArgs st) (defBody st) (defScope st) .none kV doc pm an cdv ct) ⟨us, ks.zip ws⟩ = pure (ps.zip (pick ix (us ++ ws)))) : KB K fd ps n ks ix := by
  obtain ⟨oc, od, kV, doc, pm, an, cdv, ct, osl, rfl, lk, hcd⟩ := F.ex
  exact fun s us ws _ h1 h2 => .of_eq (h kV doc pm an cdv ct us ws h1 h2)

/-! ### the layer's rules, the written part told -/
section
variable {X : Cx} {tg : Expr}
theorem k_ixL (K : PySem.W.Frag) (h : X.K = K := by rfl) : IxR X (rIxL K) := h ▸ ix_list
theorem k_ixT (K : PySem.W.Frag) (h : X.K = K := by rfl) : IxR X (rIxT K) := h ▸ ix_tup
theorem k_sum (K : PySem.W.Frag) (hc : X.calm = true := by rfl) (h : X.K = K := by rfl) : CallR X (.builtin "sum") (rSum K) := h ▸ cr_sum hc
theorem k_min (K : PySem.W.Frag) (hc : X.calm = true := by rfl) (h : X.K = K := by rfl) : CallR X (.builtin "min") (rMin K) := h ▸ cr_min hc
theorem k_max (K : PySem.W.Frag) (hc : X.calm = true := by rfl) (h : X.K = K := by rfl) : CallR X (.builtin "max") (rMax K) := h ▸ cr_max hc
theorem k_all (K : PySem.W.Frag) (hc : X.calm = true := by rfl) (h : X.K = K := by rfl) : CallR X (.builtin "all") (rAll K) := h ▸ cr_all hc
theorem k_any (K : PySem.W.Frag) (hc : X.calm = true := by rfl) (h : X.K = K := by rfl) : CallR X (.builtin "any") (rAny K) := h ▸ cr_any hc
theorem k_len (K : PySem.W.Frag) (h : X.K = K := by rfl) : CallR X (.builtin "len") (fun xs H Q => ∃ p ys, xs = [.ref p] ∧ (SqL K H p ys ∨ SqT K H p ys) ∧ Q (.int ys.length) H) := h ▸ call_len_seq
theorem k_tupOf (K : PySem.W.Frag) (h : X.K = K := by rfl) : CallR X (.type "tuple") (rTupOf K) := h ▸ call_tuple_of
theorem k_listOf (K : PySem.W.Frag) (h : X.K = K := by rfl) : CallR X (.type "list") (fun xs H Q => ∃ p ys, xs = [.ref p] ∧ (SqL K H p ys ∨ SqT K H p ys) ∧ ∀ l, H l = none → Q (.ref l) (upd H l (.lst ys))) := h ▸ call_list_of
theorem k_repr {k : Nat} (K : PySem.W.Frag) (hr : Room k X.A) (gd : X.A.guards = some []) (nd : X.base.NoDigits) (h : X.K = K := by rfl) : CallR X (.builtin "repr") (rRepr K) := h ▸ call_repr hr gd nd
theorem k_in (K : PySem.W.Frag) (h : X.K = K := by rfl) : OpR X (compareOp .In) (rIn K false) := h ▸ op_in_seq
theorem k_notin (K : PySem.W.Frag) (h : X.K = K := by rfl) : OpR X (compareOp .NotIn) (rIn K true) := h ▸ op_notIn_seq
theorem k_pil (K : PySem.W.Frag) {l : Expr} {tl : TE} (hl : PE X l tl) (h : X.K = K := by rfl) : PI X tg l (iList K tl) := h ▸ pi_list hl
theorem k_pit (K : PySem.W.Frag) {l : Expr} {tl : TE} (hl : PE X l tl) (h : X.K = K := by rfl) : PI X tg l (iTup K tl) := h ▸ pi_tup hl
theorem k_pie (K : PySem.W.Frag) {e : Expr} {ta : TA} {p pos tpos : Pos} {elts : List Expr} {kk : Nat} (hg : Gl X "enumerate") (hm : X.mg "enumerate" = none) (ha : PA X [e] ta) (hs : starEach [e] X.env = [(false, eval e X.env)] := by rfl) (h : X.K = K := by rfl) :
    PI X (.Tuple elts kk tpos) (.Call (.Name "enumerate" p) [e] [] pos) (iEnum K ta) := h ▸ pi_enum hg hm ha hs
theorem k_piz (K : PySem.W.Frag) {e e2 : Expr} {ta : TA} {p pos tpos : Pos} {elts : List Expr} {kk : Nat} (hg : Gl X "zip") (hm : X.mg "zip" = none) (ha : PA X [e, e2] ta)
    (hs : starEach [e, e2] X.env = (false, eval e X.env) :: starEach [e2] X.env := by rfl) (hpl : (backTo pos (starEach [e2] X.env)).any (·.1) = false := by rfl) (h : X.K = K := by rfl) :
    PI X (.Tuple elts kk tpos) (.Call (.Name "zip" p) [e, e2] [] pos) (iZip K ta) := h ▸ pi_zip hg hm ha hs hpl
theorem k_gt (K : PySem.W.Frag) {es : List Expr} {k : Nat} {pos : Pos} {t : TGs} {n : Nat} (h : PGs X es t) (hc : X.calm = true := by rfl)
    (hn : (assignEach es X.env).length = n := by rfl) (hst : (assignEach es X.env).findIdx? (·.1) = none := by rfl) (hK : X.K = K := by rfl) : PG X (.Tuple es k pos) (gTup K n t) := hK ▸ pg_tup hc h hn hst
end

/-! ### ranges with a step, enumerate -/
section
variable {μ : Type → Type} {τ : Type} [Mir μ τ] {α β : Type} {p : Pt τ} {σ : St} {S H : Hp} {te ta tb tc : TE} {K : PySem.W.Frag}
def Rg3 (i j c : Int) : Prop := c ≠ 0 ∧ c.natAbs < 1073741824 ∧ Builtin.Range.small i j c = true ∧ 0 ≤ Builtin.Range.rangeSize i j c
instance (i j c : Int) : Decidable (Rg3 i j c) := inferInstanceAs (Decidable (_ ∧ _))
def rng3 (i j c : Int) : List Int := (List.range (Builtin.Range.rangeSize i j c).toNat).map fun (k : Nat) => i + (k : Int) * c
theorem it_rng3 {lo c : Int} {n : Nat} {O : Own} : ItOk p (Itc lo c n) ((List.range n).map fun (k : Nat) => lo + (k : Int) * c) rI S O := fun S1 H1 _ e2 _ => by
  refine ⟨fun i hi => by show i < n; simpa using hi, by show n ≤ _; simp, fun i x v H2 hx y => ?_⟩
  obtain ⟨e3, y⟩ := y
  subst e3
  subst y
  refine ⟨S1, Gm.rf e2, ?_⟩
  rw [List.getElem?_map] at hx
  have hi : i < n := by
    by_cases h : i < n
    · exact h
    · rw [List.getElem?_eq_none (by simpa using h)] at hx; cases hx
  rw [List.getElem?_eq_getElem (by simpa using hi)] at hx
  simp at hx
  show V.int _ = V.int _
  rw [← hx]
theorem i_R3 {m m' m'' : (Int → μ β) → μ β} (h : Ev p ta σ S H m rI) (h' : Ev p tb σ S H m' rI) (h'' : Ev p tc σ S H m'' rI) : EvI p (iRng3 (tCons ta (tCons tb (tCons tc tNil)))) σ S H (fun k => m fun i => m' fun j => m'' fun c => Mir.lft (grd (Rg3 i j c)) >>= fun _ => k (rng3 i j c)) rI [] := fun S1 H1 s g ps k z hm Q q =>
  h S1 H1 s g ps _ z hm _ fun i v S2 H2 s2 g2 p2 r hm2 => h' S2 H2 s2 (g.tr g2) p2 _ z hm2 _ fun j u S3 H3 s3 g3 p3 r3 hm3 => h'' S3 H3 s3 ((g.tr g2).tr g3) p3 _ z hm3 _ fun c y S4 H4 s4 g4 p4 r4 hm4 => by
    obtain ⟨_, e, hm5⟩ := run_of_lft hm4
    have hb := grd_of e
    cases (show v = .int i from r)
    cases (show u = .int j from r3)
    cases (show y = .int c from r4)
    exact ⟨i, j, c, (Builtin.Range.rangeSize i j c).toNat, rfl, ⟨hb.1, hb.2.1, hb.2.2.1, by have := hb.2.2.2; omega⟩, q _ _ S4 H4 s4 ((g2.tr g3).tr g4) p4 it_rng3 hm5⟩
def enum (xs : List α) : List (Int × α) := xs.zipIdx.map fun y => ((y.2 : Int), y.1)
theorem i_enum {m : (List α → μ β) → μ β} {R : Rp α} [Mo R] (h : Ev p te σ S H m (rL (aAll R))) : EvI p (iEnum K (tCons te tNil)) σ S H (fun k => m fun xs => k (enum xs)) (rT K (aCons rI (aOne R))) [] := fun S1 H1 s g ps k z hm Q q =>
  h S1 H1 s g ps _ z hm _ fun xs v S2 H2 s2 g2 p2 ⟨x, vs, e, h1, h2⟩ hm2 => ⟨x, vs, by rw [e], .of (g2.i _ _ h1), q _ _ S2 H2 s2 g2 p2 (fun S3 H3 e1 e2 _ => by
    have a2 : All R S2 xs vs := h2
    have hq : SqL K H3 x vs := .of (e2 _ _ (e1 _ _ h1))
    have ln : (enum xs).length = vs.length := by unfold enum; rw [List.length_map, List.length_zipIdx, a2.len]
    refine ⟨fun i hi => ⟨vs, vs[i]'(by rw [← ln]; exact hi), hq, List.getElem?_eq_getElem _⟩, ⟨vs, hq, by rw [ln]; exact Nat.le_refl _⟩, fun i y v H4 hx yl => ?_⟩
    obtain ⟨tp, u, e3, n, e4, yl⟩ := yl
    subst e3
    subst e4
    have hu := yl vs hq
    have hx' : xs.zipIdx[i]? = some (y.2, i) ∧ y.1 = (i : Int) := by
      unfold enum at hx
      rw [List.getElem?_map] at hx
      cases q2 : xs.zipIdx[i]? with
      | none => rw [q2] at hx; cases hx
      | some c =>
        rw [q2] at hx
        have e5 := Option.some.inj hx
        rw [List.getElem?_zipIdx] at q2
        cases q3 : xs[i]? with
        | none => rw [q3] at q2; cases q2
        | some d =>
          rw [q3] at q2
          have e6 := Option.some.inj q2
          rw [← e5, ← e6]
          simp
    rw [List.getElem?_zipIdx] at hx'
    obtain ⟨hx1, hx2⟩ := hx'
    have hx3 : xs[i]? = some y.2 := by
      cases q3 : xs[i]? with
      | none => rw [q3] at hx1; cases hx1
      | some d => rw [q3] at hx1; have := Option.some.inj hx1; simp at this; rw [this]
    obtain ⟨u', hu', ru⟩ := a2.get hx3
    rw [hu] at hu'
    cases hu'
    refine ⟨upd S3 tp (.tup [.int (i : Nat), u]), Gm.new e2 n, tp, _, rfl, .of upd_same, _, _, rfl, ?_, _, rfl, Mo.mo (e1.tr (Gm.new (M := []) e2 n).s) ru⟩
    show V.int _ = V.int _
    rw [hx2]) hm2⟩
end
end Wk
set_option Elab.async false
set_option maxRecDepth 100000
set_option maxHeartbeats 4000000
set_option linter.all false
/-! W6: == and != of data, the pot -/
namespace Wk
open PySem L2
open PyProof.Rows hiding St
section
variable {μ : Type → Type} {τ : Type} [Mir μ τ] {α β γ : Type} {p : Pt τ} {σ : St} {S H : Hp} {te ta tb : TE} {K : PySem.W.Frag}
/-- data that can be read for a while -/
def EvD (K : PySem.W.Frag) (p : Pt τ) (te : TE) (σ : St) (S H : Hp) (m : (PyData → μ β) → μ β) : Prop :=
  ∀ S1 H1 s, Gm p.M S H S1 H1 → PotAt p s S1 H1 → ∀ (k : PyData → μ β) z, Mir.run (m k) s = some z → ∀ Q : VK,
    (∀ d v S2 H2 s2, Gm p.M S1 H1 S2 H2 → PotAt p s2 S2 H2 → (∀ S3 H3, Gm p.M S2 H2 S3 H3 → Dp K H3 v d) → Mir.run (k d) s2 = some z → Q v H2) → te σ H1 Q
theorem Ev.D {R : Rp α} [Mo R] {d : α → PyData} {m : (α → μ β) → μ β} (h : Ev p te σ S H m R) (hd : isD K R d) : EvD K p te σ S H (fun k => m fun a => k (d a)) := fun S1 H1 s g ps k z hm Q q =>
  h S1 H1 s g ps _ z hm _ fun a v S2 H2 s2 g2 p2 r hm2 => q (d a) v S2 H2 s2 g2 p2 (fun S3 H3 g3 => hd a v S3 H3 (Mo.mo g3.s r) g3.i) hm2
theorem EvR.D {A : Rq α} [Mo A] {d : α → List PyData} {m : (α → μ β) → μ β} (h : EvR p te σ S H m A) (hd : isDs K A d) : EvD K p te σ S H (fun k => m fun a => k (.list (d a))) := fun S1 H1 s g ps k z hm Q q =>
  h S1 H1 s g ps _ z hm _ fun a x vs S2 H2 s2 g2 p2 e m2 r hm2 => q (.list (d a)) (.ref x) S2 H2 s2 g2 p2 (fun S3 H3 g3 => .lst (.of (g3.h _ _ m2 e)) (hd a vs S3 H3 (Mo.mo g3.s r) g3.i)) hm2
def ShD (d : PyData) : Prop := SeqAt.shaped d = true
instance (d : PyData) : Decidable (ShD d) := inferInstanceAs (Decidable (_ = true))
theorem e_eqD {m m' : (PyData → μ β) → μ β} (h : EvD K p ta σ S H m) (h' : EvD K p tb σ S H m') : Ev p (tOp (rEqD K) ta tb) σ S H (fun k => m fun d => m' fun e => Mir.lft (grd (ShD d ∧ ShD e)) >>= fun _ => k (PyData.eqv d e)) rB := fun S1 H1 s g ps k z hm Q q =>
  h S1 H1 s g ps _ z hm _ fun d v S2 H2 s2 g2 p2 r hm2 => h' S2 H2 s2 (g.tr g2) p2 _ z hm2 _ fun e u S3 H3 s3 g3 p3 r3 hm3 => by
    obtain ⟨_, e1, hm4⟩ := run_of_lft hm3
    have hc := grd_of e1
    exact ⟨d, e, r _ _ g3, r3 _ _ (Gm.rf g3.i), hc.1, hc.2, q _ _ S3 H3 s3 (g2.tr g3) p3 rfl hm4⟩
theorem e_neD {m m' : (PyData → μ β) → μ β} (h : EvD K p ta σ S H m) (h' : EvD K p tb σ S H m') : Ev p (tOp (rNeD K) ta tb) σ S H (fun k => m fun d => m' fun e => Mir.lft (grd (ShD d ∧ ShD e)) >>= fun _ => k (!PyData.eqv d e)) rB := fun S1 H1 s g ps k z hm Q q =>
  h S1 H1 s g ps _ z hm _ fun d v S2 H2 s2 g2 p2 r hm2 => h' S2 H2 s2 (g.tr g2) p2 _ z hm2 _ fun e u S3 H3 s3 g3 p3 r3 hm3 => by
    obtain ⟨_, e1, hm4⟩ := run_of_lft hm3
    have hc := grd_of e1
    exact ⟨d, e, r _ _ g3, r3 _ _ (Gm.rf g3.i), hc.1, hc.2, q _ _ S3 H3 s3 (g2.tr g3) p3 rfl hm4⟩
end
section
variable {X : Cx}
theorem k_eqD {k : Nat} (K : PySem.W.Frag) (hr : Room k X.A) (h : X.K = K := by rfl) : OpR X (compareOp .Eq) (rEqD K) := h ▸ op_eqD hr.units
theorem k_neD {k : Nat} (K : PySem.W.Frag) (hr : Room k X.A) (h : X.K = K := by rfl) : OpR X (compareOp .NotEq) (rNeD K) := h ▸ op_neD hr.units
end

/-! ### the pot -/
structure PotT where
  great : List Int
  mix : Int
  turn : Int
structure PotI where
  a : Addr
  g : Addr
  ne : a ≠ g
def potOf (hd : Addr → Int → Int → HO) (i : PotI) : Pt PotT := ⟨[i.a, i.g], fun s => [(i.a, hd i.g s.mix s.turn), (i.g, .lst (s.great.map V.int))], fun _ => rfl, by simp [i.ne]⟩
/-- a dict, a list -/
def hdD (k1 : Str) (g : Addr) (x y : Int) : HO := .dK [(.inr "great", .ref g), (.inr k1, .int x), (.inr "turn", .int y)]
def hdL (g : Addr) (x y : Int) : HO := .lst [.ref g, .int x, .int y]
def rP (i : PotI) : Rp Unit := fun _ v _ => v = .ref i.a
instance (i : PotI) : Mo (rP i) := ⟨fun _ h => h⟩
def rG (i : PotI) : Rp Unit := fun _ v _ => v = .ref i.g
instance (i : PotI) : Mo (rG i) := ⟨fun _ h => h⟩
def potS : PM PotT PotT := fun s => some (s, s)
def potW (f : PotT → PotT) : PM PotT Unit := fun s => some ((), f s)
section
variable {hd : Addr → Int → Int → HO} {i : PotI} {s : PotT} {S H : Hp}
theorem pot_hd (ps : PotAt (potOf hd i) s S H) : H i.a = some (hd i.g s.mix s.turn) ∧ S i.a = none := ps (i.a, _) (List.mem_cons_self ..)
theorem pot_gr (ps : PotAt (potOf hd i) s S H) : H i.g = some (.lst (s.great.map V.int)) ∧ S i.g = none := ps (i.g, _) (List.mem_cons_of_mem _ (List.mem_cons_self ..))
theorem pot_mk (h1 : H i.a = some (hd i.g s.mix s.turn)) (h2 : S i.a = none) (h3 : H i.g = some (.lst (s.great.map V.int))) (h4 : S i.g = none) : PotAt (potOf hd i) s S H := fun c hc => by
  rcases List.mem_cons.mp hc with e | hc
  · subst e; exact ⟨h1, h2⟩
  · rcases List.mem_cons.mp hc with e | hc
    · subst e; exact ⟨h3, h4⟩
    · exact nomatch hc
theorem Gm.inM {M : List Addr} {q : Addr} {u o : HO} (e : Ex S H) (hq : H q = some u) (hs : S q = none) (hM : q ∈ M) : Gm M S H S (upd H q o) := by
  refine ⟨Ex.rf, fun a x h => ?_, fun a x m h => ?_, fun a x h n => n, fun a x h => ?_⟩
  · rw [upd_ne (by rintro rfl; rw [hs] at h; cases h)]; exact e a x h
  · rw [upd_ne (by rintro rfl; exact m hM)]; exact h
  · by_cases z : a = q
    · subst z; exact ⟨o, upd_same⟩
    · exact ⟨x, by rw [upd_ne z]; exact h⟩
theorem pot_pg (e : Ex S H) (ps : PotAt (potOf hd i) s S H) (l : List Int) : PotAt (potOf hd i) { s with great := l } S (upd H i.g (.lst (l.map V.int))) ∧ Gm (potOf hd i).M S H S (upd H i.g (.lst (l.map V.int))) := by
  obtain ⟨h1, h2⟩ := pot_hd ps
  obtain ⟨h3, h4⟩ := pot_gr ps
  exact ⟨pot_mk (by rw [upd_ne i.ne]; exact h1) h2 upd_same h4, Gm.inM e h3 h4 (by simp [potOf])⟩
theorem pot_ph (e : Ex S H) (ps : PotAt (potOf hd i) s S H) (x y : Int) : PotAt (potOf hd i) { s with mix := x, turn := y } S (upd H i.a (hd i.g x y)) ∧ Gm (potOf hd i).M S H S (upd H i.a (hd i.g x y)) := by
  obtain ⟨h1, h2⟩ := pot_hd ps
  obtain ⟨h3, h4⟩ := pot_gr ps
  exact ⟨pot_mk upd_same h2 (by rw [upd_ne (Ne.symm i.ne)]; exact h3) h4, Gm.inM e h1 h2 (by simp [potOf])⟩
end
section
variable {β : Type} {hd : Addr → Int → Int → HO} {i : PotI} {σ : St} {S H : Hp} {te ta tb : TE} {K : PySem.W.Frag} {k1 : Str} {z : β × PotT} {L : List (Addr × HO)} {S0 H0 : Hp} {s : PotT} {tz : TS} {D : Ends}
/-- what is asked of the state -/
theorem e_pot {R : Rp α} (f : PotT → α) (rd : ∀ s S1 H1, Ex S1 H1 → PotAt (potOf hd i) s S1 H1 → ∀ Q : VK, (∀ v, R (f s) v S1 → Q v H1) → te σ H1 Q) : Ev (μ := PM PotT) (β := β) (potOf hd i) te σ S H (fun k => potS >>= fun s => k (f s)) R := fun S1 H1 s g ps k z hm Q q =>
  rd s S1 H1 g.i ps Q fun v r => q (f s) v S1 H1 s (Gm.rf g.i) ps r hm
/-! as a dict -/
theorem gt_ne : ("great" : Str) ≠ "turn" := by decide
theorem dD_G {j : Nat} (e : σ[j]? = some (some (.ref i.a))) : Ev (μ := PM PotT) (β := β) (potOf (hdD k1) i) (tDGet (tVar j) (tC (.str "great"))) σ S H (fun k => k ()) (rG i) := fun S1 H1 s g ps k z hm Q q =>
  ⟨.ref i.a, e, i.a, _, rfl, by have q1 := DGet.k (k := Sum.inr "great") (pot_hd ps).1; rw [valV_pos rfl] at q1; exact q1, q () _ S1 H1 s (Gm.rf g.i) ps rfl hm⟩
theorem dD_S {j : Nat} (e : σ[j]? = some (some (.ref i.a))) (hk : k1 ≠ "great" := by decide) : Ev (μ := PM PotT) (β := β) (potOf (hdD k1) i) (tDGet (tVar j) (tC (.str k1))) σ S H (fun k => potS >>= fun s => k s.mix) rI :=
  e_pot (α := Int) (fun s => s.mix) fun s S1 H1 ex ps Q q => ⟨.ref i.a, e, i.a, .int s.mix, rfl, by have q1 := DGet.k (k := Sum.inr k1) (pot_hd ps).1; rw [valV_neg (fun h => hk (Sum.inr.inj h).symm), valV_pos rfl] at q1; exact q1, q _ rfl⟩
theorem dD_T {j : Nat} (e : σ[j]? = some (some (.ref i.a))) (hk : k1 ≠ "turn" := by decide) : Ev (μ := PM PotT) (β := β) (potOf (hdD k1) i) (tDGet (tVar j) (tC (.str "turn"))) σ S H (fun k => potS >>= fun s => k s.turn) rI :=
  e_pot (α := Int) (fun s => s.turn) fun s S1 H1 ex ps Q q => ⟨.ref i.a, e, i.a, .int s.turn, rfl, by have q1 := DGet.k (k := Sum.inr "turn") (pot_hd ps).1; rw [valV_neg (fun h => absurd (Sum.inr.inj h) gt_ne), valV_neg (fun h => hk (Sum.inr.inj h)), valV_pos rfl] at q1; exact q1, q _ rfl⟩
theorem qD_S {j : Nat} {m : (Int → PM PotT β) → PM PotT β} {k : PM PotT β} (w : Wd (potOf (hdD k1) i) S0 H0 S H L) (ps : PotAt (potOf (hdD k1) i) s S H) (e : σ[j]? = some (some (.ref i.a))) (h : Ev (potOf (hdD k1) i) te σ S H m rI)
    (hm : Mir.run (m fun a => potW (fun s => { s with mix := a }) >>= fun _ => k) s = some z) (hk : k1 ≠ "great") (hk2 : k1 ≠ "turn")
    (nx : ∀ S1 H1 s1, Wd (potOf (hdD k1) i) S0 H0 S1 H1 L → PotAt (potOf (hdD k1) i) s1 S1 H1 → Gm (potOf (hdD k1) i).M S H S1 H1 → Mir.run k s1 = some z → tz D σ H1) : tSeq (sDPut (tVar j) (tC (.str k1)) te) tz D σ H :=
  h S H s (Gm.rf w.i) ps _ z hm _ fun a v S1 H1 s1 g p1 r hm1 => by
    cases (show v = .int a from r)
    obtain ⟨u, s2, e1, hm2⟩ := run_of_bind hm1
    cases e1
    obtain ⟨p2, g2⟩ := pot_ph g.i p1 a s1.turn
    refine ⟨.ref i.a, e, i.a, _, rfl, DPut.k (k := Sum.inr k1) (pot_hd p1).1 (by rw [sizeLine_eq]; simp), ?_⟩
    have e2 : putK [(Sum.inr (α := Int) ("great" : Str), V.ref i.g), (.inr k1, .int s1.mix), (.inr "turn", .int s1.turn)] (.inr k1) (.int a) = [(.inr "great", .ref i.g), (.inr k1, .int a), (.inr "turn", .int s1.turn)] := by
      simp [putK, Ne.symm hk, Ne.symm hk2]
    rw [e2]
    exact nx S1 _ _ ((w.go g).go g2) p2 (g.tr g2) hm2
theorem qD_T {j : Nat} {m : (Int → PM PotT β) → PM PotT β} {k : PM PotT β} (w : Wd (potOf (hdD k1) i) S0 H0 S H L) (ps : PotAt (potOf (hdD k1) i) s S H) (e : σ[j]? = some (some (.ref i.a))) (h : Ev (potOf (hdD k1) i) te σ S H m rI)
    (hm : Mir.run (m fun a => potW (fun s => { s with turn := a }) >>= fun _ => k) s = some z) (hk2 : k1 ≠ "turn")
    (nx : ∀ S1 H1 s1, Wd (potOf (hdD k1) i) S0 H0 S1 H1 L → PotAt (potOf (hdD k1) i) s1 S1 H1 → Gm (potOf (hdD k1) i).M S H S1 H1 → Mir.run k s1 = some z → tz D σ H1) : tSeq (sDPut (tVar j) (tC (.str "turn")) te) tz D σ H :=
  h S H s (Gm.rf w.i) ps _ z hm _ fun a v S1 H1 s1 g p1 r hm1 => by
    cases (show v = .int a from r)
    obtain ⟨u, s2, e1, hm2⟩ := run_of_bind hm1
    cases e1
    obtain ⟨p2, g2⟩ := pot_ph g.i p1 s1.mix a
    refine ⟨.ref i.a, e, i.a, _, rfl, DPut.k (k := Sum.inr "turn") (pot_hd p1).1 (by rw [sizeLine_eq]; simp), ?_⟩
    have e2 : putK [(Sum.inr (α := Int) ("great" : Str), V.ref i.g), (.inr k1, .int s1.mix), (.inr "turn", .int s1.turn)] (.inr "turn") (.int a) = [(.inr "great", .ref i.g), (.inr k1, .int s1.mix), (.inr "turn", .int a)] := by
      simp [putK, hk2, gt_ne]
    rw [e2]
    exact nx S1 _ _ ((w.go g).go g2) p2 (g.tr g2) hm2
/-! the great ones -/
theorem ints_data {l : List Int} : ∀ {H : Hp}, DpAll K H (l.map V.int) (l.map PyData.int) := by
  intro H
  induction l with
  | nil => exact .nil
  | cons a l ih => exact .cons (.int a) ih
def neG (s : PotT) : Bool := !s.great.isEmpty
theorem shaped_ints (l : List Int) : SeqAt.shaped (.list (l.map PyData.int)) = true := by
  have h1 : ∀ l : List Int, PyData.canLayAll0 (l.map PyData.int) = true := by
    intro l
    induction l with
    | nil => rfl
    | cons a l ih => rw [List.map_cons]; unfold PyData.canLayAll0; rw [ih]; rfl
  have h2 : ∀ l : List Int, PyData.depthAll (l.map PyData.int) ≤ 1 := by
    intro l
    induction l with
    | nil => decide
    | cons a l ih => rw [List.map_cons]; unfold PyData.depthAll; simp [PyData.depth]; omega
  unfold SeqAt.shaped
  have h3 : (PyData.list (l.map PyData.int)).canLay0 = true := by unfold PyData.canLay0; exact h1 l
  have h4 : (PyData.list (l.map PyData.int)).depth ≤ 64 := by unfold PyData.depth; have := h2 l; omega
  rw [h3]; simpa using h4
/-- great != [] -/
theorem e_neG {m : (Unit → PM PotT β) → PM PotT β} (h : Ev (potOf hd i) te σ S H m (rG i)) : Ev (potOf hd i) (tOp (rNeD K) te (tLst tNil)) σ S H (fun k => m fun _ => potS >>= fun s => k (neG s)) rB := fun S1 H1 s g ps k z hm Q q =>
  h S1 H1 s g ps _ z hm _ fun _ v S2 H2 s2 g2 p2 r hm2 => ⟨by rw [sizeLine_eq]; decide, fun x hx => by
    cases (show v = .ref i.g from r)
    have g3 : Gm (potOf hd i).M S2 H2 S2 (upd H2 x (.lst [])) := Gm.own g2.i hx
    have p3 := p2.go (Gm.own (M := []) (o := .lst []) g2.i hx)
    refine ⟨.list (s2.great.map PyData.int), .list [], .lst (.of (pot_gr p3).1) ints_data, .lst (.of upd_same) .nil, shaped_ints _, by decide, ?_⟩
    refine q _ _ S2 _ s2 (g2.tr g3) p3 ?_ hm2
    show V.bl _ = V.bl _
    congr 1
    unfold neG
    cases s2.great with
    | nil => rfl
    | cons a l => rfl⟩
theorem ty_G {s : PotT} (ps : PotAt (potOf hd i) s S H) : tyV K "list" (.ref i.g) H := .inl ⟨rfl, _, .of (pot_gr ps).1⟩
/-- great.pop(0) -/
def popG : PM PotT Int := fun s => match s.great with | [] => none | c :: r => some (c, { s with great := r })
theorem e_pop0 {m : (Unit → PM PotT β) → PM PotT β} (h : Ev (potOf hd i) te σ S H m (rG i)) : Ev (potOf hd i) (tBM K "list" rPopAt te (tCons (tC (.int 0)) tNil)) σ S H (fun k => m fun _ => popG >>= k) rI := fun S1 H1 s g ps k z hm Q q =>
  h S1 H1 s g ps _ z hm _ fun _ v S2 H2 s2 g2 p2 r hm2 => by
    cases (show v = .ref i.g from r)
    refine ⟨ty_G p2, ?_⟩
    obtain ⟨c, s3, e1, hm3⟩ := run_of_bind hm2
    have e1 : popG s2 = some (c, s3) := e1
    unfold popG at e1
    cases e : s2.great with
    | nil => rw [e] at e1; cases e1
    | cons b l =>
      rw [e] at e1
      obtain ⟨rfl, rfl⟩ := Prod.mk.inj (Option.some.inj e1)
      obtain ⟨p3, g3⟩ := pot_pg g2.i p2 l
      refine ⟨i.g, s2.great.map V.int, 0, 0, .int b, rfl, rfl, (pot_gr p2).1, by decide, by decide, ?_, by rw [e]; rfl, ?_⟩
      · rw [e]; simp [seqIndex?]
      rw [show (s2.great.map V.int).eraseIdx 0 = l.map V.int by rw [e]; rfl]
      exact q b _ S2 _ _ (g2.tr g3) p3 rfl hm3
/-- great.insert(0, e) -/
theorem e_ins0 {m : (Unit → PM PotT β) → PM PotT β} {m' : (Int → PM PotT β) → PM PotT β} (h : Ev (potOf hd i) te σ S H m (rG i)) (h' : Ev (potOf hd i) ta σ S H m' rI) :
    Ev (potOf hd i) (tBM K "list" (fun x vs H Q => ∃ (l : Addr) (xs : List V) (i : Int) (y : V), x = .ref l ∧ vs = [.int i, y] ∧ H l = some (.lst xs) ∧ xs.length < sizeLine ∧ 0 ≤ i ∧ i < 2 ^ 63 ∧ Q .non (upd H l (.lst (xs.take i.toNat ++ [y] ++ xs.drop i.toNat)))) te (tCons (tC (.int 0)) (tCons ta tNil))) σ S H
      (fun k => m fun _ => m' fun a => potS >>= fun s => Mir.lft (grd (s.great.length < 16000000)) >>= fun _ => potW (fun s => { s with great := a :: s.great }) >>= k) rN := fun S1 H1 s g ps k z hm Q q =>
  h S1 H1 s g ps _ z hm _ fun _ v S2 H2 s2 g2 p2 r hm2 => by
    cases (show v = .ref i.g from r)
    refine ⟨ty_G p2, h' S2 H2 s2 (g.tr g2) p2 _ z hm2 _ fun a u S3 H3 s3 g3 p3 r3 hm3 => ?_⟩
    cases (show u = .int a from r3)
    obtain ⟨s4, s5, e1, hm4⟩ := run_of_bind hm3
    cases e1
    obtain ⟨_, e2, hm5⟩ := run_of_lft hm4
    have hl := grd_of e2
    obtain ⟨_, s6, e3, hm6⟩ := run_of_bind hm5
    cases e3
    obtain ⟨p4, g4⟩ := pot_pg g3.i p3 (a :: s3.great)
    refine ⟨i.g, s3.great.map V.int, 0, .int a, rfl, rfl, (pot_gr p3).1, by rw [List.length_map, sizeLine_eq]; omega, by decide, by decide, ?_⟩
    rw [show ((s3.great.map V.int).take (0 : Int).toNat ++ [V.int a] ++ (s3.great.map V.int).drop (0 : Int).toNat) = (a :: s3.great).map V.int by simp]
    exact q () _ S3 _ _ ((g2.tr g3).tr g4) p4 rfl hm6
/-- an expression for what it does -/
theorem q_dropE {α : Type} {m : (α → PM PotT β) → PM PotT β} {R : Rp α} {p : Pt PotT} {k : α → PM PotT β} (w : Wd p S0 H0 S H L) (ps : PotAt p s S H) (h : Ev p te σ S H m R) (hm : Mir.run (m k) s = some z)
    (nx : ∀ a S1 H1 s1, Wd p S0 H0 S1 H1 L → PotAt p s1 S1 H1 → Gm p.M S H S1 H1 → Mir.run (k a) s1 = some z → tz D σ H1) : tSeq (tDrop te) tz D σ H :=
  h S H s (Gm.rf w.i) ps _ z hm _ fun a v S1 H1 s1 g p1 r hm1 => nx a S1 H1 s1 (w.go g) p1 g hm1
end
end Wk
set_option Elab.async false
set_option maxRecDepth 100000
set_option maxHeartbeats 4000000
set_option linter.all false
/-! W7: slices, the script, the pot's making -/
namespace Wk
open PySem L2
open PyProof.Rows hiding St
section
variable {μ : Type → Type} {τ : Type} [Mir μ τ] {α β γ : Type} {p : Pt τ} {σ : St} {S H : Hp} {te ta tb : TE} {K : PySem.W.Frag}
/-- a part of a slice -/
def EvO (p : Pt τ) (to : TO) (σ : St) (S H : Hp) (m : (Option Int → μ β) → μ β) : Prop :=
  ∀ S1 H1 s, Gm p.M S H S1 H1 → PotAt p s S1 H1 → ∀ (k : Option Int → μ β) z, Mir.run (m k) s = some z → ∀ Q : Option Int → Hp → Prop,
    (∀ a S2 H2 s2, Gm p.M S1 H1 S2 H2 → PotAt p s2 S2 H2 → Mir.run (k a) s2 = some z → Q a H2) → to σ H1 Q
theorem o_no : EvO (μ := μ) (β := β) p tNoPart σ S H (fun k => k none) := fun _ _ _ g ps _ _ hm _ q => q _ _ _ _ (Gm.rf g.i) ps hm
theorem o_some {m : (Int → μ β) → μ β} (h : Ev p te σ S H m rI) : EvO p (tPart te) σ S H (fun k => m fun a => k (some a)) := fun S1 H1 s g ps k z hm Q q =>
  h S1 H1 s g ps _ z hm _ fun a v S2 H2 s2 g2 p2 r hm2 => ⟨a, r, q _ S2 H2 s2 g2 p2 hm2⟩
def cut (xs : List α) (lo hi : Option Int) : List α := (xs.drop (HT.sIx xs.length 0 lo)).take (HT.sIx xs.length xs.length hi - HT.sIx xs.length 0 lo)
theorem All.cut {R : Rp α} {xs : List α} {vs : List V} (h : All R S xs vs) (lo hi : Option Int) : All R S (cut xs lo hi) (cutV vs lo hi) := by
  unfold Wk.cut cutV
  rw [← h.len]
  exact (h.drop _).take _
theorem l_cut {R : Rp α} {m : (List α → μ β) → μ β} {ml mh : (Option Int → μ β) → μ β} {tl th : TO} [Mo R] (h : EvR p te σ S H m (aAll R)) (hl : EvO p tl σ S H ml) (hh : EvO p th σ S H mh) :
    EvL p (tSl (rSlL K) te tl th) σ S H (fun k => m fun xs => ml fun lo => mh fun hi => k (cut xs lo hi)) (aAll R) := fun S1 H1 s g ps k z hm Q q =>
  h S1 H1 s g ps _ z hm _ fun xs x vs S2 H2 s2 g2 p2 e2 m2 r2 hm2 => hl S2 H2 s2 (g.tr g2) p2 _ z hm2 _ fun lo S3 H3 s3 g3 p3 hm3 => hh S3 H3 s3 ((g.tr g2).tr g3) p3 _ z hm3 _ fun hi S4 H4 s4 g4 p4 hm4 =>
    ⟨x, vs, rfl, .of (g4.h _ _ m2 (g3.h _ _ m2 e2)), fun y hy => by
      have g5 := (g2.tr g3).tr g4
      have n1 : H1 y = none := by
        cases e : H1 y with
        | none => rfl
        | some u => obtain ⟨u', e'⟩ := g5.t y u e; rw [hy] at e'; cases e'
      have a2 : All R S2 xs vs := r2
      exact q (cut xs lo hi) y (cutV vs lo hi) S4 _ s4 (g5.tr (Gm.own g4.i hy)) (p4.go (Gm.own g4.i hy)) n1 upd_same (g4.i.no hy) (new_nM p4 hy) ((a2.mo (g3.s.tr g4.s)).cut lo hi) hm4⟩
/-- the script -/
def rX (K : PySem.W.Frag) : Rp (List Int) := fun xs v S => ∃ a, v = .ref a ∧ SqL K S a (xs.map V.int)
instance (K : PySem.W.Frag) : Mo (rX K) := ⟨fun e ⟨a, h1, h2⟩ => ⟨a, h1, sqL_ex e h2⟩⟩
theorem c_lenX {m : (List Int → μ β) → μ β} (h : Ev p te σ S H m (rX K)) : Ev p (tCB (fun xs H Q => ∃ p ys, xs = [.ref p] ∧ (SqL K H p ys ∨ SqT K H p ys) ∧ Q (.int ys.length) H) (tCons te tNil)) σ S H (fun k => m fun xs => k (xs.length : Int)) rI := fun S1 H1 s g ps k z hm Q q =>
  h S1 H1 s g ps _ z hm _ fun xs v S2 H2 s2 g2 p2 ⟨x, e2, r2⟩ hm2 => by
    subst e2
    exact ⟨x, _, rfl, .inl (sqL_ex g2.i r2), q _ _ S2 H2 s2 g2 p2 (by show V.int _ = V.int _; rw [List.length_map]) hm2⟩
theorem l_cutX {m : (List Int → μ β) → μ β} {ml mh : (Option Int → μ β) → μ β} {tl th : TO} (h : Ev p te σ S H m (rX K)) (hl : EvO p tl σ S H ml) (hh : EvO p th σ S H mh) :
    EvL p (tSl (rSlL K) te tl th) σ S H (fun k => m fun xs => ml fun lo => mh fun hi => k (cut xs lo hi)) (aAll rI) := fun S1 H1 s g ps k z hm Q q =>
  h S1 H1 s g ps _ z hm _ fun xs v S2 H2 s2 g2 p2 ⟨x, e2, r2⟩ hm2 => hl S2 H2 s2 (g.tr g2) p2 _ z hm2 _ fun lo S3 H3 s3 g3 p3 hm3 => hh S3 H3 s3 ((g.tr g2).tr g3) p3 _ z hm3 _ fun hi S4 H4 s4 g4 p4 hm4 =>
    ⟨x, _, e2, sqL_ex ((g3.s.tr g4.s).tr g4.i) r2, fun y hy => by
      have g5 := (g2.tr g3).tr g4
      have n1 : H1 y = none := by
        cases e : H1 y with
        | none => rfl
        | some u => obtain ⟨u', e'⟩ := g5.t y u e; rw [hy] at e'; cases e'
      exact q (cut xs lo hi) y (cutV (xs.map V.int) lo hi) S4 _ s4 (g5.tr (Gm.own g4.i hy)) (p4.go (Gm.own g4.i hy)) n1 upd_same (g4.i.no hy) (new_nM p4 hy) ((All.ofInts xs).cut lo hi) hm4⟩
end
section
variable {X : Cx}
theorem k_sll (K : PySem.W.Frag) (h : X.K = K := by rfl) : SlR X (rSlL K) := h ▸ sl_list
end
section
variable {β : Type} {σ : St} {S H S0 H0 : Hp} {te t1 t2 : TE} {K : PySem.W.Frag} {k1 : Str} {z : β × Unit} {hd : Addr → Int → Int → HO} {tz : TS} {D : Ends} {L : List (Addr × HO)} {s : Unit}
/-- a new pot -/
def EvP (hd : Addr → Int → Int → HO) (te : TE) (σ : St) (S H : Hp) (m : (PotT → Option β) → Option β) : Prop := ∀ S1 H1, Gm [] S H S1 H1 → ∀ (k : PotT → Option β) z, Mir.run (m k) () = some z → ∀ Q : VK,
  (∀ s i S2 H2, Gm [] S1 H1 S2 H2 → PotAt (potOf hd i) s S2 H2 → H1 i.a = none → H1 i.g = none → Mir.run (k s) () = some z → Q (.ref i.a) H2) → te σ H1 Q
theorem back_none {S H S' H' : Hp} {M : List Addr} (g : Gm M S H S' H') {x : Addr} (hx : H' x = none) : H x = none := by
  cases e : H x with
  | none => rfl
  | some u => obtain ⟨u', e'⟩ := g.t x u e; rw [hx] at e'; cases e'
theorem pot_disp {m1 : (List Int → Option β) → Option β} {m2 : (Int → Option β) → Option β} (h1 : EvL pt0 t1 σ S H m1 (aAll rI)) (h2 : Ev pt0 t2 σ S H m2 rI) (hk : k1 ≠ "great") (hk2 : k1 ≠ "turn") :
    EvP (hdD k1) (tDisp [(tC (.str "great"), t1), (tC (.str k1), t2), (tC (.str "turn"), tC (.int 0))]) σ S H (fun k => m1 fun l => m2 fun x => k ⟨l, x, 0⟩) := fun S1 H1 g k z hm Q q p hp => by
  have g2 : Gm [] S1 H1 S1 (upd H1 p (.dK [])) := Gm.own g.i hp
  show t1 σ _ _
  refine h1 S1 _ () (g.tr g2) pot0' _ z hm _ fun l q1 vs S3 H3 _ g3 _ n3 e3 s3 _ r3 hm3 => ?_
  show t2 σ _ _
  refine h2 S3 H3 () ((g.tr g2).tr g3) pot0' _ z hm3 _ fun x v S4 H4 _ g4 _ r4 hm4 => ?_
  cases (show v = .int x from r4)
  have ed : H4 p = some (.dK []) := g4.h _ _ (by simp [pt0]) (g3.h _ _ (by simp [pt0]) upd_same)
  have eg : H4 q1 = some (.lst vs) := g4.h _ _ (by simp [pt0]) e3
  have sp : S4 p = none := (g3.tr g4).f _ _ upd_same (g.i.no hp)
  have sg : S4 q1 = none := g4.f _ _ e3 s3
  have ne : p ≠ q1 := by
    rintro rfl
    rw [upd_same] at n3
    cases n3
  refine ⟨ed, [(.inr "great", .ref q1), (.inr k1, .int x), (.inr "turn", .int 0)], rfl, by simp, ?_⟩
  have em : mergeK ([] : List (Key × V)) [(.inr "great", .ref q1), (.inr k1, .int x), (.inr "turn", .int 0)] = [(.inr "great", .ref q1), (.inr k1, .int x), (.inr "turn", .int 0)] := by
    simp [mergeK, putK, Ne.symm hk, hk, hk2, gt_ne]
  rw [em]
  have hv : vs = l.map V.int := All.ints r3
  subst hv
  refine q ⟨l, x, 0⟩ ⟨p, q1, ne⟩ S4 _ ⟨((g2.tr g3).tr g4).s, fun a u e => ?_, fun a u _ e => ?_, ((g2.tr g3).tr g4).f, fun a u e => ?_⟩ (pot_mk upd_same sp (by rw [upd_ne (Ne.symm ne)]; exact eg) sg) hp ?_ hm4
  · rw [upd_ne (by rintro rfl; rw [sp] at e; cases e)]; exact g4.i a u e
  · rw [upd_ne (by rintro rfl; rw [hp] at e; cases e)]
    exact ((g2.tr g3).tr g4).h a u (by simp) e
  · by_cases z : a = p
    · subst z; rw [hp] at e; cases e
    · obtain ⟨u', e'⟩ := ((g2.tr g3).tr g4).t a u e
      exact ⟨u', by rw [upd_ne z]; exact e'⟩
  · exact back_none g2 n3
theorem q_retP {m : (PotT → Option β) → Option β} {k : PotT → Option β} (w : Wd pt0 S0 H0 S H L) (h : EvP hd te σ S H m) (hm : Mir.run (m fun a => bnd a k) () = some z)
    (nx : ∀ s i S1 H1, Gm [] S0 H0 S1 H1 → PotAt (potOf hd i) s S1 H1 → H0 i.a = none → H0 i.g = none → Mir.run (k s) () = some z → D.rt (.ref i.a) H1) : tSeq (tRet te) tz D σ H :=
  h S H (Gm.rf w.i) _ z hm _ fun s i S1 H1 g1 p1 n1 n2 hm1 => nx s i S1 H1 (w.g.tr g1) p1 (back_none w.g n1) (back_none w.g n2) hm1
def spP (hd : Addr → Int → Int → HO) (fm : List Int → Option PotT) (K : PySem.W.Frag) : Sp := fun vs H Q _ => ∃ a S s, Ex S H ∧ (aOne (rX K)) a vs S ∧ fm a = some s ∧
  ∀ i S' H', Gm [] S H S' H' → PotAt (potOf hd i) s S' H' → H i.a = none → H i.g = none → Q (.ref i.a) H'
/-- the law's first line -/
theorem q_pot {fm : List Int → Option PotT} {j : Nat} {v : V} {a : List Int} {s : PotT} (ex : Ex S H) (e : σ[0]? = some (some v)) (r : rX K a v S) (hf : fm a = some s) (σ' : V → St) (hσ : ∀ v, σ.set j (some v) = σ' v)
    (nx : ∀ i S1 H1, Wd (potOf hd i) S1 H1 S1 H1 [] → PotAt (potOf hd i) s S1 H1 → Ex S S1 → tz D (σ' (.ref i.a)) H1) : tSeq (tAsg (tCall (spP hd fm K) [] E0 (tCons (tVar 0) tNil)) (gName j)) tz D σ H :=
  ⟨v, e, a, S, s, ex, ⟨v, rfl, r⟩, hf, fun i S1 H1 g1 p1 _ _ => by
    have q := nx i S1 H1 (Wd.start g1.i) p1 g1.s
    rw [← hσ] at q
    exact q⟩
/-- the law's promise: its answer is True -/
def spLaw (K : PySem.W.Frag) (ok : List Int → Prop) : Sp := fun vs H Q _ => ∃ a, (aOne (rX K)) a vs H ∧ ok a ∧ ∀ H', Q (.bl true) H'
end
end Wk
set_option Elab.async false
set_option maxRecDepth 100000
set_option maxHeartbeats 4000000
set_option linter.all false
/-! W8: sums of tuples, the pot as a list -/
namespace Wk
open PySem L2
open PyProof.Rows hiding St
def rSumT (K : PySem.W.Frag) : List V → Hp → VK → Prop := fun vs H Q => ∃ (a : Addr) (ns : List Int), vs = [V.ref a] ∧ SqT K H a (ns.map V.int) ∧ Q (.int ns.sum) H
section
variable {X : Cx}
theorem cr_sumT (hc : X.calm = true) : CallR X (.builtin "sum") (rSumT X.K) := by
  intro pins s σ H vs us Q I r h
  obtain ⟨a, ns, rfl, hs, q⟩ := h
  obtain ⟨its, rv, ht, _⟩ := I.tuple hs
  rw [Vals.ref1 r]
  have ht : s.heap.IsTuple a its.toArray := by
    obtain ⟨o, ho, hcl, n, hd⟩ := ht
    exact ⟨o, ho, hcl, n, hd⟩
  have hi : IntsAre its ns := rv.ints
  obtain ⟨xs, hx⟩ := hi.allInts.items
  have hn : numsOf its.toArray.toList = ns := by rw [show its.toArray.toList = its from rfl, hi.numsOf]
  rw [hx] at ht hn
  rw [nums_intItems] at hn
  refine PySem.W.ktm_sumG (I.ok.hd hc) ht fun h' tk t' hk => ⟨.int ns.sum, H, I.kept hk, ?_, q⟩
  rw [preSum_eq, List.take_of_length_le (by simp), hn]
  exact ⟨_, rfl⟩
theorem k_sumT (K : PySem.W.Frag) (hc : X.calm = true := by rfl) (h : X.K = K := by rfl) : CallR X (.builtin "sum") (rSumT K) := h ▸ cr_sumT hc
end
section
variable {μ : Type → Type} {τ : Type} [Mir μ τ] {α β : Type} {p : Pt τ} {σ : St} {S H : Hp} {te ta tb : TE} {K : PySem.W.Frag}
theorem c_sumT {m : (List Int → μ β) → μ β} (h : Ev p te σ S H m (rT K (aAll rI))) : Ev p (tCB (rSumT K) (tCons te tNil)) σ S H (fun k => m fun xs => k xs.sum) rI := fun S1 H1 s g ps k z hm Q q =>
  h S1 H1 s g ps _ z hm _ fun xs v S2 H2 s2 g2 p2 ⟨x, vs, e2, h2, r2⟩ hm2 => ⟨x, xs, by rw [e2], by rw [← All.ints r2]; exact sqT_ex g2.i h2, q _ _ S2 H2 s2 g2 p2 rfl hm2⟩
end
section
variable {β : Type} {i : PotI} {σ : St} {S H S0 H0 : Hp} {te ta tb t1 t2 : TE} {K : PySem.W.Frag} {z : β × PotT} {L : List (Addr × HO)} {s : PotT} {tz : TS} {D : Ends} {hd : Addr → Int → Int → HO}
/-! as a list -/
theorem dL_ix {j : Nat} {c : Int} {v : V} (ps : PotAt (potOf hdL i) s S H) (e : σ[j]? = some (some (.ref i.a))) (hv : atI [V.ref i.g, .int s.mix, .int s.turn] c = some v) {Q : VK} (q : Q v H) : tOp (rIxL K) (tVar j) (tC (.int c)) σ H Q :=
  ⟨.ref i.a, e, i.a, _, c, v, rfl, rfl, .of (pot_hd ps).1, hv, q⟩
theorem dL_G {j : Nat} (e : σ[j]? = some (some (.ref i.a))) : Ev (μ := PM PotT) (β := β) (potOf hdL i) (tOp (rIxL K) (tVar j) (tC (.int 0))) σ S H (fun k => k ()) (rG i) := fun S1 H1 s g ps k z hm Q q =>
  dL_ix ps e rfl (q () _ S1 H1 s (Gm.rf g.i) ps rfl hm)
theorem dL_S {j : Nat} (e : σ[j]? = some (some (.ref i.a))) : Ev (μ := PM PotT) (β := β) (potOf hdL i) (tOp (rIxL K) (tVar j) (tC (.int 1))) σ S H (fun k => potS >>= fun s => k s.mix) rI :=
  e_pot (α := Int) (fun s => s.mix) fun s S1 H1 ex ps Q q => dL_ix ps e rfl (q _ rfl)
theorem dL_T {j : Nat} (e : σ[j]? = some (some (.ref i.a))) : Ev (μ := PM PotT) (β := β) (potOf hdL i) (tOp (rIxL K) (tVar j) (tC (.int 2))) σ S H (fun k => potS >>= fun s => k s.turn) rI :=
  e_pot (α := Int) (fun s => s.turn) fun s S1 H1 ex ps Q q => dL_ix ps e rfl (q _ rfl)
theorem qL_T {j : Nat} {m : (Int → PM PotT β) → PM PotT β} {k : PM PotT β} (w : Wd (potOf hdL i) S0 H0 S H L) (ps : PotAt (potOf hdL i) s S H) (e : σ[j]? = some (some (.ref i.a))) (h : Ev (potOf hdL i) te σ S H m rI)
    (hm : Mir.run (m fun a => potW (fun s => { s with turn := a }) >>= fun _ => k) s = some z)
    (nx : ∀ S1 H1 s1, Wd (potOf hdL i) S0 H0 S1 H1 L → PotAt (potOf hdL i) s1 S1 H1 → Gm (potOf hdL i).M S H S1 H1 → Mir.run k s1 = some z → tz D σ H1) : tSeq (tAsg te (gSub (tVar j) (tC (.int 2)) rSetL)) tz D σ H :=
  h S H s (Gm.rf w.i) ps _ z hm _ fun a v S1 H1 s1 g p1 r hm1 => by
    cases (show v = .int a from r)
    obtain ⟨u, s2, e1, hm2⟩ := run_of_bind hm1
    cases e1
    obtain ⟨p2, g2⟩ := pot_ph g.i p1 s1.mix a
    exact ⟨.ref i.a, e, i.a, _, 2, 2, rfl, rfl, (pot_hd p1).1, rfl, nx S1 _ _ ((w.go g).go g2) p2 (g.tr g2) hm2⟩
/-- great.pop() -/
def popL : PM PotT Int := fun s => match s.great.getLast? with | none => none | some c => some (c, { s with great := s.great.dropLast })
theorem e_popL {m : (Unit → PM PotT β) → PM PotT β} (h : Ev (potOf hd i) te σ S H m (rG i)) : Ev (potOf hd i) (tBM0 K "list" rPop te) σ S H (fun k => m fun _ => popL >>= k) rI := fun S1 H1 s g ps k z hm Q q =>
  h S1 H1 s g ps _ z hm _ fun _ v S2 H2 s2 g2 p2 r hm2 => by
    cases (show v = .ref i.g from r)
    refine ⟨ty_G p2, ?_⟩
    obtain ⟨c, s3, e1, hm3⟩ := run_of_bind hm2
    have e1 : popL s2 = some (c, s3) := e1
    unfold popL at e1
    cases e : s2.great.getLast? with
    | none => rw [e] at e1; cases e1
    | some b =>
      rw [e] at e1
      obtain ⟨rfl, rfl⟩ := Prod.mk.inj (Option.some.inj e1)
      obtain ⟨p3, g3⟩ := pot_pg g2.i p2 s2.great.dropLast
      refine ⟨i.g, s2.great.map V.int, .int b, rfl, rfl, (pot_gr p2).1, ?_, ?_⟩
      · rw [List.length_map, List.getElem?_map, ← List.getLast?_eq_getElem?, e]; rfl
      rw [← List.map_dropLast]
      exact q b _ S2 _ _ (g2.tr g3) p3 rfl hm3
/-- great.append(e) -/
theorem e_appG {m : (Unit → PM PotT β) → PM PotT β} {m' : (Int → PM PotT β) → PM PotT β} (h : Ev (potOf hd i) te σ S H m (rG i)) (h' : Ev (potOf hd i) ta σ S H m' rI) : Ev (potOf hd i) (tBM K "list" rAppend te (tCons ta tNil)) σ S H
      (fun k => m fun _ => m' fun a => potS >>= fun s => Mir.lft (grd (s.great.length < 16000000)) >>= fun _ => potW (fun s => { s with great := s.great ++ [a] }) >>= k) rN := fun S1 H1 s g ps k z hm Q q =>
  h S1 H1 s g ps _ z hm _ fun _ v S2 H2 s2 g2 p2 r hm2 => by
    cases (show v = .ref i.g from r)
    refine ⟨ty_G p2, h' S2 H2 s2 (g.tr g2) p2 _ z hm2 _ fun a u S3 H3 s3 g3 p3 r3 hm3 => ?_⟩
    cases (show u = .int a from r3)
    obtain ⟨s4, s5, e1, hm4⟩ := run_of_bind hm3
    cases e1
    obtain ⟨_, e2, hm5⟩ := run_of_lft hm4
    have hl := grd_of e2
    obtain ⟨_, s6, e3, hm6⟩ := run_of_bind hm5
    cases e3
    obtain ⟨p4, g4⟩ := pot_pg g3.i p3 (s3.great ++ [a])
    refine ⟨i.g, s3.great.map V.int, .int a, rfl, rfl, (pot_gr p3).1, by rw [List.length_map, sizeLine_eq]; omega, ?_⟩
    rw [show (s3.great.map V.int ++ [V.int a]) = (s3.great ++ [a]).map V.int by simp]
    exact q () _ S3 _ _ ((g2.tr g3).tr g4) p4 rfl hm6
end
section
variable {β : Type} {σ : St} {S H : Hp} {t1 t2 : TE}
theorem pot_lst {m1 : (List Int → Option β) → Option β} {m2 : (Int → Option β) → Option β} (h1 : EvL pt0 t1 σ S H m1 (aAll rI)) (h2 : Ev pt0 t2 σ S H m2 rI) :
    EvP hdL (tLst (tCons t1 (tCons t2 (tCons (tC (.int 0)) tNil)))) σ S H (fun k => m1 fun l => m2 fun x => k ⟨l, x, 0⟩) := fun S1 H1 g k z hm Q q => by
  refine h1 S1 H1 () g pot0' _ z hm _ fun l q1 vs S3 H3 _ g3 _ n3 e3 s3 _ r3 hm3 => ?_
  refine h2 S3 H3 () (g.tr g3) pot0' _ z hm3 _ fun x v S4 H4 _ g4 _ r4 hm4 => ?_
  cases (show v = .int x from r4)
  have eg : H4 q1 = some (.lst vs) := g4.h _ _ (by simp [pt0]) e3
  have sg : S4 q1 = none := g4.f _ _ e3 s3
  have hv : vs = l.map V.int := All.ints r3
  subst hv
  refine ⟨by rw [sizeLine_eq]; simp, fun p hp => ?_⟩
  have ne : p ≠ q1 := by
    rintro rfl
    rw [eg] at hp
    cases hp
  have g5 : Gm [] S4 H4 S4 (upd H4 p (.lst [.ref q1, .int x, .int 0])) := Gm.own g4.i hp
  exact q ⟨l, x, 0⟩ ⟨p, q1, ne⟩ S4 _ ((g3.tr g4).tr g5) (pot_mk upd_same (g4.i.no hp) (by rw [upd_ne (Ne.symm ne)]; exact eg) sg) (back_none (g3.tr g4) hp) n3 hm4
end
end Wk
set_option Elab.async false
set_option maxRecDepth 100000
set_option maxHeartbeats 4000000
set_option linter.all false
/-! W9: what is never reached, typed ==, sorted, tuples taken apart -/
namespace Wk
open PySem L2
open PyProof.Rows hiding St
theorem ps_dead {X : Cx} {st : Stmt} : PS X st (fun _ _ _ => False) := ⟨fun _ _ _ _ _ _ h => h.elim⟩
section
variable {μ : Type → Type} {τ : Type} [Mir μ τ] {α β γ : Type} {p : Pt τ} {σ : St} {S H S0 H0 : Hp} {te ta tb : TE} {K : PySem.W.Frag} {s : τ} {tz : TS} {D : Ends} {z : β × τ}
/-- a raise that is never reached -/
theorem q_dead {k : Unit → μ β} (hm : Mir.run (Mir.lft (none : Option Unit) >>= k) s = some z) : tSeq (fun _ _ _ => False) tz D σ H := by
  obtain ⟨_, e, _⟩ := run_of_lft hm
  cases e
/-- x is True, x is False -/
theorem e_isB {m m' : (Bool → μ β) → μ β} (h : Ev p ta σ S H m rB) (h' : Ev p tb σ S H m' rB) : Ev p (tOp rIsB ta tb) σ S H (fun k => m fun a => m' fun b => k (decide (a = b))) rB := fun S1 H1 s g ps k z hm Q q =>
  h S1 H1 s g ps _ z hm _ fun a v S2 H2 s2 g2 p2 r hm2 => h' S2 H2 s2 (g.tr g2) p2 _ z hm2 _ fun b u S3 H3 s3 g3 p3 r3 hm3 => ⟨a, b, r, r3, q _ _ S3 H3 s3 (g2.tr g3) p3 rfl hm3⟩
theorem e_notB {m m' : (Bool → μ β) → μ β} (h : Ev p ta σ S H m rB) (h' : Ev p tb σ S H m' rB) : Ev p (tOp rNotB ta tb) σ S H (fun k => m fun a => m' fun b => k (!decide (a = b))) rB := fun S1 H1 s g ps k z hm Q q =>
  h S1 H1 s g ps _ z hm _ fun a v S2 H2 s2 g2 p2 r hm2 => h' S2 H2 s2 (g.tr g2) p2 _ z hm2 _ fun b u S3 H3 s3 g3 p3 r3 hm3 => ⟨a, b, r, r3, q _ _ S3 H3 s3 (g2.tr g3) p3 rfl hm3⟩
theorem Ev.eta {m : (α → μ β) → μ β} {R : Rp α} (h : Ev p te σ S H (fun k => m k) R) : Ev p te σ S H m R := h
theorem EvL.eta {m : (α → μ β) → μ β} {A : Rq α} (h : EvL p te σ S H (fun k => m k) A) : EvL p te σ S H m A := h
/-! ### == of values of one kind -/
/-- data that is told apart as the values are -/
structure EqD (D : Nat) (d : α → PyData) : Prop where
  e : ∀ a b, PyData.eqv (d a) (d b) = true ↔ a = b
  l : ∀ a, (d a).canLay0 = true
  d : ∀ a, (d a).depth ≤ D
structure EqDs (D : Nat) (d : α → List PyData) : Prop where
  e : ∀ a b, PyData.eqvAll (d a) (d b) = true ↔ a = b
  l : ∀ a, PyData.canLayAll0 (d a) = true
  d : ∀ a, PyData.depthAll (d a) ≤ D
theorem q_I : EqD 0 PyData.int := ⟨fun a b => by simp only [PyData.eqv]; exact beq_iff_eq, fun _ => rfl, fun _ => by simp only [PyData.depth]; exact Nat.le_refl _⟩
theorem q_B : EqD 0 PyData.bool := ⟨fun a b => by simp only [PyData.eqv]; exact beq_iff_eq, fun _ => rfl, fun _ => by simp only [PyData.depth]; exact Nat.le_refl _⟩
theorem qs_nil : EqDs 0 (fun _ : Unit => []) := ⟨fun a b => by simp only [PyData.eqvAll], fun _ => rfl, fun _ => by simp only [PyData.depthAll]; exact Nat.le_refl _⟩
theorem qs_one {n : Nat} {d : α → PyData} (h : EqD n d) : EqDs n (fun a => [d a]) := ⟨fun a b => by simp only [PyData.eqvAll, Bool.and_true]; exact h.e a b, fun a => by simp only [PyData.canLayAll0, Bool.and_true]; exact h.l a, fun a => by simp only [PyData.depthAll]; have := h.d a; omega⟩
theorem qs_cons {n m : Nat} {d : α → PyData} {ds : γ → List PyData} (h : EqD n d) (h' : EqDs m ds) : EqDs (max n m) (fun a : α × γ => d a.1 :: ds a.2) :=
  ⟨fun a b => by simp only [PyData.eqvAll, Bool.and_eq_true]; rw [h.e, h'.e]; exact Prod.ext_iff.symm, fun a => by simp only [PyData.canLayAll0, Bool.and_eq_true]; exact ⟨h.l _, h'.l _⟩, fun a => by simp only [PyData.depthAll]; have := h.d a.1; have := h'.d a.2; omega⟩
theorem qs_all {n : Nat} {d : α → PyData} (h : EqD n d) : EqDs n (fun xs : List α => xs.map d) := by
  refine ⟨fun a b => ?_, fun a => ?_, fun a => ?_⟩
  · induction a generalizing b with
    | nil => cases b <;> simp [PyData.eqvAll]
    | cons x a ih =>
      cases b with
      | nil => simp [PyData.eqvAll]
      | cons y b =>
        simp only [List.map_cons, PyData.eqvAll, Bool.and_eq_true]
        rw [h.e, ih, List.cons.injEq]
  · induction a with
    | nil => rfl
    | cons x a ih => simp only [List.map_cons, PyData.canLayAll0, Bool.and_eq_true]; exact ⟨h.l x, ih⟩
  · induction a with
    | nil => simp only [List.map_nil, PyData.depthAll]; omega
    | cons x a ih => simp only [List.map_cons, PyData.depthAll]; have := h.d x; omega
theorem q_T {n : Nat} {ds : α → List PyData} (h : EqDs n ds) : EqD (n + 1) (fun a => PyData.tuple (ds a)) := ⟨fun a b => by simp only [PyData.eqv]; exact h.e a b, fun a => by simp only [PyData.canLay0]; exact h.l a, fun a => by simp only [PyData.depth]; have := h.d a; omega⟩
theorem q_L {n : Nat} {ds : α → List PyData} (h : EqDs n ds) : EqD (n + 1) (fun a => PyData.list (ds a)) := ⟨fun a b => by simp only [PyData.eqv]; exact h.e a b, fun a => by simp only [PyData.canLay0]; exact h.l a, fun a => by simp only [PyData.depth]; have := h.d a; omega⟩
theorem EqD.sh {n : Nat} {d : α → PyData} (h : EqD n d) (hn : n ≤ 64) (a : α) : ShD (d a) := by
  unfold ShD SeqAt.shaped
  rw [h.l a, decide_eq_true (Nat.le_trans (h.d a) hn)]; rfl
theorem EqD.dec [DecidableEq α] {n : Nat} {d : α → PyData} (h : EqD n d) (a b : α) : PyData.eqv (d a) (d b) = decide (a = b) := by
  by_cases q : a = b
  · rw [decide_eq_true q]; exact (h.e a b).mpr q
  · rw [decide_eq_false q]
    cases e : PyData.eqv (d a) (d b) with
    | false => rfl
    | true => exact absurd ((h.e a b).mp e) q
/-- data known as a value -/
def EvQ (K : PySem.W.Frag) (d : α → PyData) (p : Pt τ) (te : TE) (σ : St) (S H : Hp) (m : (α → μ β) → μ β) : Prop :=
  ∀ S1 H1 s, Gm p.M S H S1 H1 → PotAt p s S1 H1 → ∀ (k : α → μ β) z, Mir.run (m k) s = some z → ∀ Q : VK,
    (∀ a v S2 H2 s2, Gm p.M S1 H1 S2 H2 → PotAt p s2 S2 H2 → (∀ S3 H3, Gm p.M S2 H2 S3 H3 → Dp K H3 v (d a)) → Mir.run (k a) s2 = some z → Q v H2) → te σ H1 Q
theorem Ev.Q {R : Rp α} [Mo R] {d : α → PyData} {m : (α → μ β) → μ β} (h : Ev p te σ S H m R) (hd : isD K R d) : EvQ K d p te σ S H m := fun S1 H1 s g ps k z hm Q q =>
  h S1 H1 s g ps _ z hm _ fun a v S2 H2 s2 g2 p2 r hm2 => q a v S2 H2 s2 g2 p2 (fun S3 H3 g3 => hd a v S3 H3 (Mo.mo g3.s r) g3.i) hm2
theorem EvR.Q {A : Rq α} [Mo A] {d : α → List PyData} {m : (α → μ β) → μ β} (h : EvR p te σ S H m A) (hd : isDs K A d) : EvQ K (fun a => .list (d a)) p te σ S H m := fun S1 H1 s g ps k z hm Q q =>
  h S1 H1 s g ps _ z hm _ fun a x vs S2 H2 s2 g2 p2 e m2 r hm2 => q a (.ref x) S2 H2 s2 g2 p2 (fun S3 H3 g3 => .lst (.of (g3.h _ _ m2 e)) (hd a vs S3 H3 (Mo.mo g3.s r) g3.i)) hm2
theorem e_eqQ [DecidableEq α] {n : Nat} {d : α → PyData} {m m' : (α → μ β) → μ β} (hd : EqD n d) (hn : n ≤ 64) (h : EvQ K d p ta σ S H m) (h' : EvQ K d p tb σ S H m') : Ev p (tOp (rEqD K) ta tb) σ S H (fun k => m fun a => m' fun b => k (decide (a = b))) rB := fun S1 H1 s g ps k z hm Q q =>
  h S1 H1 s g ps _ z hm _ fun a v S2 H2 s2 g2 p2 r hm2 => h' S2 H2 s2 (g.tr g2) p2 _ z hm2 _ fun b u S3 H3 s3 g3 p3 r3 hm3 =>
    ⟨d a, d b, r _ _ g3, r3 _ _ (Gm.rf g3.i), hd.sh hn a, hd.sh hn b, q _ _ S3 H3 s3 (g2.tr g3) p3 (by rw [hd.dec]; rfl) hm3⟩
theorem e_neQ [DecidableEq α] {n : Nat} {d : α → PyData} {m m' : (α → μ β) → μ β} (hd : EqD n d) (hn : n ≤ 64) (h : EvQ K d p ta σ S H m) (h' : EvQ K d p tb σ S H m') : Ev p (tOp (rNeD K) ta tb) σ S H (fun k => m fun a => m' fun b => k (!decide (a = b))) rB := fun S1 H1 s g ps k z hm Q q =>
  h S1 H1 s g ps _ z hm _ fun a v S2 H2 s2 g2 p2 r hm2 => h' S2 H2 s2 (g.tr g2) p2 _ z hm2 _ fun b u S3 H3 s3 g3 p3 r3 hm3 =>
    ⟨d a, d b, r _ _ g3, r3 _ _ (Gm.rf g3.i), hd.sh hn a, hd.sh hn b, q _ _ S3 H3 s3 (g2.tr g3) p3 (by rw [hd.dec]; rfl) hm3⟩
/-! ### sorted -/
def ins1 (x : Int) : List Int → List Int
  | [] => [x]
  | y :: r => if x ≤ y then x :: y :: r else y :: ins1 x r
def srt : List Int → List Int
  | [] => []
  | x :: r => ins1 x (srt r)
theorem ins1_perm (x : Int) : ∀ l, (ins1 x l).Perm (x :: l)
  | [] => .refl _
  | y :: r => by
    unfold ins1
    split
    · exact .refl _
    · exact ((ins1_perm x r).cons y).trans (.swap x y r)
theorem srt_perm : ∀ l, (srt l).Perm l
  | [] => .refl _
  | x :: r => (ins1_perm x (srt r)).trans ((srt_perm r).cons x)
theorem ins1_sorted (x : Int) : ∀ l, List.Pairwise (· ≤ ·) l → List.Pairwise (· ≤ ·) (ins1 x l)
  | [], _ => by simp [ins1]
  | y :: r, h => by
    unfold ins1
    obtain ⟨h1, h2⟩ := List.pairwise_cons.mp h
    split
    · rename_i hx
      refine List.pairwise_cons.mpr ⟨fun a ha => ?_, h⟩
      rcases List.mem_cons.mp ha with e | ha
      · omega
      · have := h1 a ha; omega
    · rename_i hx
      refine List.pairwise_cons.mpr ⟨fun a ha => ?_, ins1_sorted x r h2⟩
      rcases List.mem_cons.mp ((ins1_perm x r).mem_iff.mp ha) with e | ha
      · omega
      · exact h1 a ha
theorem srt_sorted : ∀ l, List.Pairwise (· ≤ ·) (srt l)
  | [] => .nil
  | x :: r => ins1_sorted x _ (srt_sorted r)
theorem sorted_one {a b : List Int} (h : a.Perm b) (ha : List.Pairwise (· ≤ ·) a) (hb : List.Pairwise (· ≤ ·) b) : a = b :=
  h.eq_of_pairwise (fun x y _ _ h1 h2 => Int.le_antisymm h1 h2) ha hb
theorem l_srt {m : (List Int → μ β) → μ β} (h : EvR p te σ S H m (aAll rI)) : EvL p (tCB (rSortedI K) (tCons te tNil)) σ S H (fun k => m fun xs => k (srt xs)) (aAll rI) := fun S1 H1 s g ps k z hm Q q =>
  h S1 H1 s g ps _ z hm _ fun xs x vs S2 H2 s2 g2 p2 e2 m2 r2 hm2 => ⟨x, xs, rfl, .of (by rw [e2, All.ints r2]), fun ns y h1 h2 hy => by
    have e : ns = srt xs := sorted_one (h1.trans (srt_perm xs).symm) h2 (srt_sorted xs)
    subst e
    exact q (srt xs) y _ S2 _ s2 (g2.tr (Gm.own g2.i hy)) (p2.go (Gm.own g2.i hy)) (back_none g2 hy) upd_same (g2.i.no hy) (new_nM p2 hy) (All.ofInts _) hm2⟩
/-- a list of ones own goes over to another name, and stays as it is from here on -/
theorem q_mv {i n j : Nat} {q : Addr} {vs : List V} {xs : List α} {R : Rp α} [Mo R] {L : List (Addr × HO)} {k : List α → μ β} (σ' : St) (hσ : σ.set n (some (.ref q)) = σ') (w : Wd p S0 H0 S H L) (ps : PotAt p s S H) (hj : L[j]? = some (q, .lst vs)) (e : σ[i]? = some (some (.ref q))) (ha : All R S xs vs)
    (hm : Mir.run (bnd xs k) s = some z) (nx : ∀ S1, Wd p S0 H0 S1 H (L.eraseIdx j) → PotAt p s S1 H → Ex S S1 → rL (aAll R) xs (.ref q) S1 → Mir.run (k xs) s = some z → tz D σ' H) : tSeq (tAsg (tVar i) (gName n)) tz D σ H :=
  ⟨.ref q, e, by
    have h := nx (upd S q (.lst vs)) (w.frz hj) (ps.frz (w.nmAt hj)) (ex_frz (w.at hj).2.1) ⟨q, vs, rfl, upd_same, ha.mo (ex_frz (w.at hj).2.1)⟩ hm
    rw [← hσ] at h
    exact h⟩
/-! ### a tuple of one kind taken apart -/
def two? : List α → Option (α × α)
  | [a, b] => some (a, b)
  | _ => none
theorem two_all {R : Rp α} {xs : List α} {vs : List V} {ab : α × α} (r : All R S xs vs) (e : two? xs = some ab) : aCons R (aOne R) ab vs S := by
  cases r with
  | nil => cases e
  | cons ra t =>
    cases t with
    | nil => cases e
    | cons rb t =>
      cases t with
      | nil =>
        cases e
        exact ⟨_, _, rfl, ra, _, rfl, rb⟩
      | cons _ _ => cases e
theorem e_two {R : Rp α} {m : (List α → μ β) → μ β} (h : Ev p te σ S H m (rT K (aAll R))) : Ev p te σ S H (fun k => m fun xs => Mir.lft (two? xs) >>= k) (rT K (aCons R (aOne R))) := fun S1 H1 s g ps k z hm Q q =>
  h S1 H1 s g ps _ z hm _ fun xs v S2 H2 s2 g2 p2 r hm2 => by
    obtain ⟨ab, e, hm3⟩ := run_of_lft hm2
    obtain ⟨x, vs, e2, h2, r2⟩ := r
    exact q ab v S2 H2 s2 g2 p2 ⟨x, vs, e2, h2, two_all r2 e⟩ hm3
end
section
variable {X : Cx}
theorem k_srt (K : PySem.W.Frag) (h : X.K = K := by rfl) : CallR X (.builtin "sorted") (rSortedI K) := h ▸ cr_sortedI
end
end Wk
set_option Elab.async false
set_option maxRecDepth 100000
set_option maxHeartbeats 4000000
set_option linter.all false
/-! W10: enumerate of tuples, zip of lists and tuples -/
namespace Wk
open PySem L2
open PyProof.Rows hiding St
set_option maxHeartbeats 1000000 in
theorem meets_enum1 {v : Value} {o : Obj} {H : Heap → Prop} (B : Begins v o H) :
    Meets (Builtin.«enumerate.__new__» ⟨[.type "enumerate", v], []⟩) (fun _ R s => H s.heap ∧
      R (.ok (.ret (.ref (s.heap.push o).objs.size))) { s with heap := (s.heap.push o).push { cls := .type "enumerate", data := .fields #[.none, .bool false, .ref s.heap.objs.size, rawInt 0, .none, .none] } }) :=
  .of_wp fun prog w A R s h => by
    obtain ⟨hp, g, d, tk, os⟩ := s; obtain ⟨h1, h⟩ := h
    have hsub := sub_enumerate
    have q1 : ∀ {A' : Around} {E : Value → Shared → Prop} {Q : Value → Shared → Prop}, Q (.ref hp.objs.size) ⟨hp.push o, g, d, tk, os⟩ → wpAny (model prog w) A' (pyIter v) Q E ⟨hp, g, d, tk, os⟩ :=
      fun q => B.iter prog w _ _ ⟨hp, g, d, tk, os⟩ _ h1 q
    wp_walk using q1
    refine wpAny_stack_any fun st => wpAny_pure ?_
    split
    · rename_i c _ _ _ _ _
      cases (c == Value.type "enumerate")
      · wp_walk using q1
        exact ⟨_, rfl, h⟩
      · wp_walk using q1
        exact ⟨_, rfl, h⟩
    · wp_walk using q1
      exact ⟨_, rfl, h⟩
section
variable {prog : Program} {w : World} {A : Around} {E : Value → Shared → Prop} {s : Shared}
theorem enum1_begins {v : Value} {o : Obj} {H : Heap → Prop} {Q : Value → Shared → Prop} (B : Begins v o H) (h1 : H s.heap)
    (h : ∀ h', IsEnum h' (s.heap.objs.size + 1) s.heap.objs.size 0 .none → h'.get? s.heap.objs.size = some o → h'.objs.size = s.heap.objs.size + 2 →
      (∀ b o, s.heap.get? b = some o → h'.get? b = some o) → Q (.ref (s.heap.objs.size + 1)) { s with heap := h' }) :
    wpAny (model prog w) A (call (.type "enumerate") [v]) Q E s := by
  refine callType_new F.called_enumerate (by decide) (F.typeCall_enumerate_1 _) (F.newCall_enumerate_1 _) (fun obj => F.args_object_init_2 obj _) F.entry_enumerate_new
    (meets_enum1 B) ⟨h1, ?_⟩
  have hz : (s.heap.push o).objs.size = s.heap.objs.size + 1 := Heap.size_push ..
  show _ ∧ _
  rw [hz]
  have he : IsEnum ((s.heap.push o).push { cls := .type "enumerate", data := .fields #[.none, .bool false, .ref s.heap.objs.size, rawInt 0, .none, .none] }) (s.heap.objs.size + 1) s.heap.objs.size 0 .none := by
    have := Heap.get?_push_size (s.heap.push o) (o := { cls := .type "enumerate", data := .fields #[.none, .bool false, .ref s.heap.objs.size, rawInt 0, .none, .none] }) rfl
    rw [hz] at this; exact this
  refine ⟨⟨_, he, rfl⟩, h _ he (Heap.get?_push_of_some _ (Heap.get?_push_size _ B.free)) (by rw [Heap.size_push, hz]) fun b o x => Heap.get?_push_of_some _ (Heap.get?_push_of_some _ x)⟩
end
def IteT (K : PySem.W.Frag) (a : Addr) : It :=
  ⟨fun i H => ∃ (xs : List V) (x : V), SqT K H a xs ∧ xs[i]? = some x, fun i H v H' => ∃ T x, v = .ref T ∧ H T = none ∧ H' = upd H T (.tup [.int (i : Nat), x]) ∧ ∀ xs, SqT K H a xs → xs[i]? = some x, fun i H => ∃ xs : List V, SqT K H a xs ∧ xs.length ≤ i⟩
theorem turn_enumT {P : Program} {w : World} {K : PySem.W.Frag} {elts : List Expr} {kk : Nat} {tpos : Pos} (a e it : Addr) :
    Turn P w K (.Tuple elts kk tpos) (IteT K a) [e, it] e (fun i h => (∃ old, IsEnum h e it ((i : Nat) : Int) old) ∧ h.IsTupleIter it a i ∧ e ≠ it) where
  mem := by simp
  obj := fun i h st b hb => by
    obtain ⟨⟨old, he⟩, ⟨o, ho, hc, hd⟩, _⟩ := st
    have e' : b = e ∨ b = it := by simpa using hb
    rcases e' with z | z
    · rw [z]; exact ⟨_, he, fun v q => nomatch q⟩
    · rw [z]; exact ⟨o, ho, fun v q => by rw [hd] at q; cases q⟩
  keep := fun i h h' st k => let ⟨⟨old, he⟩, hi, hne⟩ := st; ⟨⟨old, k e (by simp) _ he⟩, hi.at fun o q => k it (by simp) o q, hne⟩
  item := by
    intro X hP hw hK hc i pins s σ H E I hf st hg
    subst hP hw hK
    obtain ⟨⟨old, he⟩, hit, hne⟩ := st
    obtain ⟨xs, x, hq, hx⟩ := hg
    obtain ⟨its, rv, p, hz⟩ := I.tuple hq
    obtain ⟨u, hu, ru⟩ := rv.get hx
    have hel : e < s.heap.objs.size := Heap.lt_size he
    have hil : it < s.heap.objs.size := by obtain ⟨_, q, _⟩ := hit; exact Heap.lt_size q
    have hp : s.heap.IsTuple a its.toArray := p
    have hea : e ≠ a := by
      rintro rfl
      obtain ⟨o, ho, hc', _⟩ := hp
      have he' := he
      unfold IsEnum at he'
      rw [ho] at he'
      cases he'
      exact absurd (Value.type.inj hc') (by decide)
    have hia : a ≠ it := by
      rintro rfl
      obtain ⟨o, ho, hc', _⟩ := hp
      obtain ⟨o2, ho2, hc2, _⟩ := hit
      rw [ho] at ho2
      cases ho2
      rw [hc'] at hc2
      exact absurd (Value.type.inj hc2) (by decide)
    have hil2 : i < its.toArray.size := by
      have := (List.getElem?_eq_some_iff.mp hu).1
      simpa using this
    refine wpAny_pyNext_enum_itemC (Draws.tuple (A := X.A.in1) (show X.A.in1.handled = none from I.ok.hd hc) it a hia its.toArray) he ⟨hit, hp⟩ hil2 hne (by simp [hne, hea]) fun x' h' tk hP ho hst' hT hsz hk => ?_
    have hxe : x' = u := by
      have hu' : its.toArray[i]? = some u := by simpa using hu
      rw [hu'] at hP
      exact (Option.some.inj hP).symm
    subst hxe
    refine ⟨_, rfl, wpAny_letOwnedTupleGo_enum (s := { s with heap := h', toks := tk + 1 }) ho fun h'' he' sb => ?_⟩
    have hT2 : h''.get? s.heap.objs.size = some { cls := .type "tuple", data := .seq #[.int i tk, x'] } := (sb.2 _ (Nat.ne_of_gt hel)).trans hT
    have new : ObjOk X.prog X.w (upd H s.heap.objs.size (.tup [.int (i : Nat), x])) h'' s.heap.objs.size (.tup [.int (i : Nat), x]) :=
      ⟨by show 2 ≤ sizeLine; decide, [.int i tk, x'], .cons ⟨_, rfl⟩ (.cons ru .nil), ⟨_, hT2, rfl, _, rfl⟩⟩
    have I1 : Inv X pins σ (upd H s.heap.objs.size (.tup [.int (i : Nat), x])) { s with heap := h'', toks := tk + 1 } :=
      I.turnedNew (ch := [e, it]) (fun b ob hb q => (sb.2 b (fun z => hb (by simp [z]))).trans (hk b ob (fun z => hb (by simp [z])) (fun z => hb (by simp [z])) q)) hf (Nat.le_refl _) new
    refine ⟨.ref s.heap.objs.size, _, I1, rfl, ⟨_, x, rfl, I.hok.fresh (Nat.le_refl _), rfl, fun ys hy => by rw [I.tuple_inj hy hq]; exact hx⟩, ⟨⟨x', ?_⟩, hst'.1.at fun o q => (sb.2 it (Ne.symm hne)).trans q, hne⟩, fun b hb => ?_⟩
    · have e1 : ((i + 1 : Nat) : Int) = (i : Int) + 1 := by omega
      rw [e1]; exact he'
    · have hb' : b < s.heap.objs.size := by
        have e' : b = e ∨ b = it := by simpa using hb
        rcases e' with z | z
        · rw [z]; exact hel
        · rw [z]; exact hil
      rw [upd_ne (Nat.ne_of_lt hb')]
      exact (hf b hb).1
  done := by
    intro X hP hw hK hc i pins s σ H E I hf st hg
    subst hP hw hK
    obtain ⟨⟨old, he⟩, hit, hne⟩ := st
    obtain ⟨xs, hq, hx⟩ := hg
    obtain ⟨its, rv, p, hz⟩ := I.tuple hq
    obtain ⟨f0, f1, f2, f3, f4, f5⟩ := hf it (by simp)
    have hl := rv.length
    have hp : s.heap.IsTuple a its.toArray := p
    have hia : a ≠ it := by
      rintro rfl
      obtain ⟨o, ho, hc', _⟩ := hp
      obtain ⟨o2, ho2, hc2, _⟩ := hit
      rw [ho] at ho2
      cases ho2
      rw [hc'] at hc2
      exact absurd (Value.type.inj hc2) (by decide)
    have D : Draws X.prog X.w X.A.in1 it [it, a] i (fun _ _ => True) (fun j h => j = i ∧ h.IsTupleIter it a i ∧ h.IsTuple a its.toArray) :=
      { live := fun _ _ st => let ⟨o, ho, _⟩ := st.2.1; ⟨o, ho⟩
        frame := fun _ _ _ st hk => ⟨st.1, st.2.1.at fun o e => hk it (by simp) o e, st.2.2.at fun o e => hk a (by simp) o e⟩
        item := fun j s Q E hi st hQ => absurd st.1 (Nat.ne_of_lt hi)
        done := fun s Q E st hE => wpAny_nextOf_tuple_end (show X.A.in1.handled = none from I.ok.hd hc) st.2.1 st.2.2 (by simp; omega) hE }
    exact wpAny_pyNext_enum_endD D he ⟨rfl, hit, hp⟩ fun h' eb => ⟨rfl, I.turned (t' := s.toks) (fun b o hb q => eb b o hb q) f0 f1 f3 f4 f5⟩
  self := fun A i s Q E st h => let ⟨⟨_, he⟩, _⟩ := st; wpAny_pyIter_enum he h
def iEnumT (K : PySem.W.Frag) (ta : TA) : TI := fun σ H R => ta σ H fun vs H1 => ∃ a xs, vs = [.ref a] ∧ SqT K H1 a xs ∧ R (IteT K a) H1
theorem pi_enumT {X : Cx} {e : Expr} {ta : TA} {p pos tpos : Pos} {elts : List Expr} {kk : Nat} (hg : Gl X "enumerate") (hm : X.mg "enumerate" = none) (ha : PA X [e] ta) (hs : starEach [e] X.env = [(false, eval e X.env)] := by rfl) :
    PI X (.Tuple elts kk tpos) (.Call (.Name "enumerate" p) [e] [] pos) (iEnumT X.K ta) := by
  refine ⟨fun pins s σ H R I h => ?_⟩
  refine Call_ (ld_blt I hg hm boot_enumerate (PyProof.Rows.callWith_type1 (thn (ha.run pos pins s σ H _ I h) fun us s1 ⟨vs, H1, I1, r1, q1⟩ => ?_) hs rfl))
  obtain ⟨a, xs, ex, hq, q⟩ := q1
  subst ex
  cases r1 with
  | cons r rr =>
    cases rr
    cases r
    obtain ⟨its, rv, p', hz⟩ := I1.tuple hq
    have hp : s1.heap.IsTuple a its.toArray := p'
    refine enum1_begins (begins_tuple a its.toArray) hp fun h' he hit hsz hk => wpAny_pyIter_enum he ?_
    have I2 : Inv X pins σ H1 { s1 with heap := h' } := I1.kept (t' := s1.toks) hk
    refine ⟨s1.heap.objs.size + 1, [s1.heap.objs.size + 1, s1.heap.objs.size], _, _, H1, rfl, I2, turn_enumT a (s1.heap.objs.size + 1) s1.heap.objs.size, ⟨⟨.none, he⟩, ⟨_, hit, rfl, rfl⟩, Nat.succ_ne_self _⟩, fun b hb => ?_, q⟩
    have e' : b = s1.heap.objs.size + 1 ∨ b = s1.heap.objs.size := by simpa using hb
    have hle : s1.heap.objs.size ≤ b := by
      rcases e' with z | z
      · rw [z]; exact Nat.le_add_right _ _
      · rw [z]; exact Nat.le_refl _
    exact I1.fpOk hle (I1.hok.fresh hle)
end Wk
set_option Elab.async false
set_option maxRecDepth 100000
set_option maxHeartbeats 4000000
set_option linter.all false
/-! W11: chains, isinstance, tuples put together, places of items, values of two kinds -/
namespace Wk
open PySem L2
open PyProof.Rows hiding St
section
variable {μ : Type → Type} {τ : Type} [Mir μ τ] {α β γ δ ρ : Type} {p : Pt τ} {σ : St} {S H S0 H0 : Hp} {te ta tb tc : TE} {tt : TT} {K : PySem.W.Frag}
theorem i_enumT {m : (List α → μ β) → μ β} {R : Rp α} [Mo R] (h : Ev p te σ S H m (rT K (aAll R))) : EvI p (iEnumT K (tCons te tNil)) σ S H (fun k => m fun xs => k (enum xs)) (rT K (aCons rI (aOne R))) [] := fun S1 H1 s g ps k z hm Q q =>
  h S1 H1 s g ps _ z hm _ fun xs v S2 H2 s2 g2 p2 ⟨x, vs, e, h1, h2⟩ hm2 => ⟨x, vs, by rw [e], sqT_ex g2.i h1, q _ _ S2 H2 s2 g2 p2 (fun S3 H3 e1 e2 _ => by
    have a2 : All R S2 xs vs := h2
    have hq : SqT K H3 x vs := sqT_ex (e1.tr e2) h1
    have ln : (enum xs).length = vs.length := by unfold enum; rw [List.length_map, List.length_zipIdx, a2.len]
    refine ⟨fun i hi => ⟨vs, vs[i]'(by rw [← ln]; exact hi), hq, List.getElem?_eq_getElem _⟩, ⟨vs, hq, by rw [ln]; exact Nat.le_refl _⟩, fun i y v H4 hx yl => ?_⟩
    obtain ⟨tp, u, e3, n, e4, yl⟩ := yl
    subst e3
    subst e4
    have hu := yl vs hq
    have hx' : xs.zipIdx[i]? = some (y.2, i) ∧ y.1 = (i : Int) := by
      unfold enum at hx
      rw [List.getElem?_map] at hx
      cases q2 : xs.zipIdx[i]? with
      | none => rw [q2] at hx; cases hx
      | some c =>
        rw [q2] at hx
        have e5 := Option.some.inj hx
        rw [List.getElem?_zipIdx] at q2
        cases q3 : xs[i]? with
        | none => rw [q3] at q2; cases q2
        | some d =>
          rw [q3] at q2
          have e6 := Option.some.inj q2
          rw [← e5, ← e6]
          simp
    rw [List.getElem?_zipIdx] at hx'
    obtain ⟨hx1, hx2⟩ := hx'
    have hx3 : xs[i]? = some y.2 := by
      cases q3 : xs[i]? with
      | none => rw [q3] at hx1; cases hx1
      | some d => rw [q3] at hx1; have := Option.some.inj hx1; simp at this; rw [this]
    obtain ⟨u', hu', ru⟩ := a2.get hx3
    rw [hu] at hu'
    cases hu'
    refine ⟨upd S3 tp (.tup [.int (i : Nat), u]), Gm.new e2 n, tp, _, rfl, .of upd_same, _, _, rfl, ?_, _, rfl, Mo.mo (e1.tr (Gm.new (M := []) e2 n).s) ru⟩
    show V.int _ = V.int _
    rw [hx2]) hm2⟩
theorem zip_get {xs : List α} {ys : List γ} {i : Nat} {y : α × γ} (h : (xs.zip ys)[i]? = some y) : xs[i]? = some y.1 ∧ ys[i]? = some y.2 := by
  rw [List.getElem?_zip_eq_some] at h
  exact h
/-- zip of two lists, of two tuples -/
theorem i_zipL {m : (List α → μ β) → μ β} {m' : (List γ → μ β) → μ β} {R : Rp α} {R' : Rp γ} [Mo R] [Mo R'] (h : Ev p ta σ S H m (rL (aAll R))) (h' : Ev p tb σ S H m' (rL (aAll R'))) :
    EvI p (RZ.iZipA K (tCons ta (tCons tb tNil))) σ S H (fun k => m fun xs => m' fun ys => k (xs.zip ys)) (rT K (aCons R (aOne R'))) [] := fun S1 H1 s g ps k z hm Q q =>
  h S1 H1 s g ps _ z hm _ fun xs v S2 H2 s2 g2 p2 ⟨x, vs, e, h1, h2⟩ hm2 => h' S2 H2 s2 (g.tr g2) p2 _ z hm2 _ fun ys w S3 H3 s3 g3 p3 ⟨y, ws, e', h1', h2'⟩ hm3 => by
    subst e e'
    refine ⟨x, y, vs, ws, rfl, .inl ⟨.of (g3.i _ _ (g3.s _ _ h1)), .of (g3.i _ _ h1'), q _ _ S3 H3 s3 (g2.tr g3) p3 (fun S4 H4 e1 e2 _ => ?_) hm3⟩⟩
    have a1 : All R S2 xs vs := h2
    have a2 : All R' S3 ys ws := h2'
    have q1 : SqL K H4 x vs := .of (e2 _ _ (e1 _ _ (g3.s _ _ h1)))
    have q2 : SqL K H4 y ws := .of (e2 _ _ (e1 _ _ h1'))
    have ln : (xs.zip ys).length = min vs.length ws.length := by rw [List.length_zip, a1.len, a2.len]
    refine ⟨fun i hi => ⟨vs, ws, vs[i]'(by omega), ws[i]'(by omega), q1, q2, List.getElem?_eq_getElem _, List.getElem?_eq_getElem _⟩, ⟨vs, ws, q1, q2, by rw [ln]; omega⟩, fun i u v H5 hx yl => ?_⟩
    obtain ⟨tp, b1, b2, e3, n, e4, y1, y2⟩ := yl
    subst e3 e4
    obtain ⟨c1, c2⟩ := zip_get hx
    obtain ⟨d1, hd1, rd1⟩ := a1.get c1
    obtain ⟨d2, hd2, rd2⟩ := a2.get c2
    rw [y1 vs q1] at hd1
    rw [y2 ws q2] at hd2
    cases hd1
    cases hd2
    have gn := Gm.new (M := []) (o := .tup [b1, b2]) e2 n
    exact ⟨upd S4 tp (.tup [b1, b2]), gn, tp, _, rfl, .of upd_same, _, _, rfl, Mo.mo ((g3.s.tr e1).tr gn.s) rd1, _, rfl, Mo.mo (e1.tr gn.s) rd2⟩
theorem i_zipT {m : (List α → μ β) → μ β} {m' : (List γ → μ β) → μ β} {R : Rp α} {R' : Rp γ} [Mo R] [Mo R'] (h : Ev p ta σ S H m (rT K (aAll R))) (h' : Ev p tb σ S H m' (rT K (aAll R'))) :
    EvI p (RZ.iZipA K (tCons ta (tCons tb tNil))) σ S H (fun k => m fun xs => m' fun ys => k (xs.zip ys)) (rT K (aCons R (aOne R'))) [] := fun S1 H1 s g ps k z hm Q q =>
  h S1 H1 s g ps _ z hm _ fun xs v S2 H2 s2 g2 p2 ⟨x, vs, e, h1, h2⟩ hm2 => h' S2 H2 s2 (g.tr g2) p2 _ z hm2 _ fun ys w S3 H3 s3 g3 p3 ⟨y, ws, e', h1', h2'⟩ hm3 => by
    subst e e'
    refine ⟨x, y, vs, ws, rfl, .inr ⟨sqT_ex (g3.s.tr g3.i) h1, sqT_ex g3.i h1', q _ _ S3 H3 s3 (g2.tr g3) p3 (fun S4 H4 e1 e2 _ => ?_) hm3⟩⟩
    have a1 : All R S2 xs vs := h2
    have a2 : All R' S3 ys ws := h2'
    have q1 : SqT K H4 x vs := sqT_ex ((g3.s.tr e1).tr e2) h1
    have q2 : SqT K H4 y ws := sqT_ex (e1.tr e2) h1'
    have ln : (xs.zip ys).length = min vs.length ws.length := by rw [List.length_zip, a1.len, a2.len]
    refine ⟨fun i hi => ⟨vs, ws, vs[i]'(by omega), ws[i]'(by omega), q1, q2, List.getElem?_eq_getElem _, List.getElem?_eq_getElem _⟩, ⟨vs, ws, q1, q2, by rw [ln]; omega⟩, fun i u v H5 hx yl => ?_⟩
    obtain ⟨tp, b1, b2, e3, n, e4, y1, y2⟩ := yl
    subst e3 e4
    obtain ⟨c1, c2⟩ := zip_get hx
    obtain ⟨d1, hd1, rd1⟩ := a1.get c1
    obtain ⟨d2, hd2, rd2⟩ := a2.get c2
    rw [y1 vs q1] at hd1
    rw [y2 ws q2] at hd2
    cases hd1
    cases hd2
    have gn := Gm.new (M := []) (o := .tup [b1, b2]) e2 n
    exact ⟨upd S4 tp (.tup [b1, b2]), gn, tp, _, rfl, .of upd_same, _, _, rfl, Mo.mo ((g3.s.tr e1).tr gn.s) rd1, _, rfl, Mo.mo (e1.tr gn.s) rd2⟩
/-! chains of two comparisons of ints -/
def CmpI (r : R2) (c : Int → Int → Bool) : Prop := ∀ i j H (Q : VK), Q (.bl (c i j)) H → r (.int i) (.int j) H Q
theorem ci_lt : CmpI (rI0 fun i j => .bl (decide (i < j))) fun i j => decide (i < j) := fun i j _ _ q => ⟨i, j, rfl, rfl, q⟩
theorem ci_le : CmpI (rI0 fun i j => .bl (decide (i ≤ j))) fun i j => decide (i ≤ j) := fun i j _ _ q => ⟨i, j, rfl, rfl, q⟩
theorem ci_gt : CmpI (rI0 fun i j => .bl (decide (j < i))) fun i j => decide (j < i) := fun i j _ _ q => ⟨i, j, rfl, rfl, q⟩
theorem ci_ge : CmpI (rI0 fun i j => .bl (decide (j ≤ i))) fun i j => decide (j ≤ i) := fun i j _ _ q => ⟨i, j, rfl, rfl, q⟩
theorem e_chain {r r' : R2} {c c' : Int → Int → Bool} {ma mb : (Int → μ β) → μ β} {mc : (Int → μ Bool) → μ Bool} (hr : CmpI r c) (hr' : CmpI r' c') (ha : Ev p ta σ S H ma rI) (hb : Ev p tb σ S H mb rI) (hc : Ev p tc σ S H mc rI) :
    Ev p (tChain r r' ta tb tc) σ S H (fun k => ma fun i => mb fun j => (if c i j = true then mc fun l => pure (c' j l) else pure false) >>= k) rB := fun S1 H1 s g ps k z hm Q q =>
  ha S1 H1 s g ps _ z hm _ fun i v S2 H2 s2 g2 p2 r2 hm2 => hb S2 H2 s2 (g.tr g2) p2 _ z hm2 _ fun j u S3 H3 s3 g3 p3 r3 hm3 => by
    cases (show v = .int i from r2)
    cases (show u = .int j from r3)
    obtain ⟨b, s4, e1, e2⟩ := run_of_bind hm3
    refine hr i j _ _ ⟨_, rfl, ?_⟩
    cases e : c i j with
    | true =>
      rw [if_pos rfl]
      rw [if_pos e] at e1
      refine hc S3 H3 s3 ((g.tr g2).tr g3) p3 _ (b, s4) e1 _ fun l w S4 H4 s5 g4 p4 r4 hm4 => ?_
      cases (show w = .int l from r4)
      cases run_of_pure hm4
      exact hr' j l _ _ (q _ _ S4 H4 _ ((g2.tr g3).tr g4) p4 rfl e2)
    | false =>
      rw [if_neg (by decide)]
      rw [if_neg (by rw [e]; decide)] at e1
      cases run_of_pure e1
      exact q _ _ S3 H3 _ (g2.tr g3) p3 rfl e2
theorem e_chainT {r r' : R2} {c c' : Int → Int → Bool} {l : Int} {ma mb : (Int → μ β) → μ β} (hr : CmpI r c) (hr' : CmpI r' c') (ha : Ev p ta σ S H ma rI) (hb : Ev p tb σ S H mb rI) (hc : Ev (μ := μ) (β := β) p tc σ S H (fun k => k l) rI) :
    Ev p (tChain r r' ta tb tc) σ S H (fun k => ma fun i => mb fun j => k (c i j && c' j l)) rB := fun S1 H1 s g ps k z hm Q q =>
  ha S1 H1 s g ps _ z hm _ fun i v S2 H2 s2 g2 p2 r2 hm2 => hb S2 H2 s2 (g.tr g2) p2 _ z hm2 _ fun j u S3 H3 s3 g3 p3 r3 hm3 => by
    cases (show v = .int i from r2)
    cases (show u = .int j from r3)
    refine hr i j _ _ ⟨_, rfl, ?_⟩
    cases e : c i j with
    | true =>
      rw [if_pos rfl]
      rw [e, Bool.true_and] at hm3
      refine hc S3 H3 s3 ((g.tr g2).tr g3) p3 (fun l => k (c' j l)) z hm3 _ fun l w S4 H4 s5 g4 p4 r4 hm4 => ?_
      cases (show w = .int l from r4)
      exact hr' j l _ _ (q _ _ S4 H4 _ ((g2.tr g3).tr g4) p4 rfl hm4)
    | false =>
      rw [if_neg (by decide)]
      rw [e, Bool.false_and] at hm3
      exact q _ _ S3 H3 _ (g2.tr g3) p3 rfl hm3
/-! isinstance -/
def TyRp (K : PySem.W.Frag) (R : Rp α) (T : String) : Prop := ∀ a v S H, Ex S H → R a v S → TyX K H v (.type T)
theorem ty_I : TyRp K rI "int" := fun a v _ _ _ h => by cases (show v = .int a from h); exact .base (.int _)
theorem ty_B : TyRp K rB "bool" := fun a v _ _ _ h => by cases (show v = .bl a from h); exact .base (.bl _)
theorem ty_S : TyRp K rS "str" := fun a v _ _ _ h => by cases (show v = .str a from h); exact .base (.str _)
theorem ty_N : TyRp K rN "NoneType" := fun a v _ _ _ h => by cases (show v = .non from h); exact .base .non
theorem ty_T {A : Rq α} : TyRp K (rT K A) "tuple" := fun a v S H e ⟨x, vs, e1, h1, _⟩ => by
  subst e1
  rcases sqT_ex e h1 with (h | ⟨o, h⟩) | ⟨o, its, n, h2, h3, _⟩
  · exact .base (.tup h)
  · exact .fTuple h
  · exact .kTuple h2 h3
theorem ty_L {A : Rq α} : TyRp K (rL A) "list" := fun a v S H e ⟨x, vs, e1, h1, _⟩ => by
  subst e1
  exact .base (.lst (e _ _ h1))
theorem c_isi {R : Rp α} {m : (α → μ β) → μ β} {T U : String} {b : Bool} (h : Ev p te σ S H m R) (ht : TyRp K R T) (hk : PySem.W.kitOne K (.type T) (.type U) = some b) :
    Ev p (tCB (rIsi K) (tCons te (tCons (tC (.ty U)) tNil))) σ S H (fun k => m fun _ => k b) rB := fun S1 H1 s g ps k z hm Q q =>
  h S1 H1 s g ps _ z hm _ fun a v S2 H2 s2 g2 p2 r hm2 => ⟨v, .ty U, .type T, .type U, b, rfl, .ty U, ht a v S2 H2 g2.i r, hk, q _ _ S2 H2 s2 g2 p2 rfl hm2⟩
/-! tuples -/
/-- a tuple of a known make as one of items -/
theorem Ev.tl2 {R : Rp α} {m : (α × α → μ β) → μ β} (h : Ev p te σ S H m (rT K (aCons R (aOne R)))) : Ev p te σ S H (fun k => m fun a => k [a.1, a.2]) (rT K (aAll R)) :=
  h.map (fun a => [a.1, a.2]) fun a v S ⟨x, vs, e, h1, v1, r, e1, h2, v2, e2, h3⟩ => ⟨x, vs, e, h1, by rw [e1, e2]; exact .cons h2 (.cons h3 .nil)⟩
theorem Ev.tl3 {R : Rp α} {m : (α × α × α → μ β) → μ β} (h : Ev p te σ S H m (rT K (aCons R (aCons R (aOne R))))) : Ev p te σ S H (fun k => m fun a => k [a.1, a.2.1, a.2.2]) (rT K (aAll R)) :=
  h.map (fun a => [a.1, a.2.1, a.2.2]) fun a v S ⟨x, vs, e, h1, v1, r, e1, h2, v2, r2, e2, h3, v3, e3, h4⟩ => ⟨x, vs, e, h1, by rw [e1, e2, e3]; exact .cons h2 (.cons h3 (.cons h4 .nil))⟩
theorem Ev.tl1 {R : Rp α} {m : (α → μ β) → μ β} (h : Ev p te σ S H m (rT K (aOne R))) : Ev p te σ S H (fun k => m fun a => k [a]) (rT K (aAll R)) :=
  h.map (fun a => [a]) fun a v S ⟨x, vs, e, h1, v1, e1, h2⟩ => ⟨x, vs, e, h1, by rw [e1]; exact .cons h2 .nil⟩
theorem Ev.tl0 {R : Rp α} {m : (Unit → μ β) → μ β} (h : Ev p te σ S H m (rT K aNil)) : Ev p te σ S H (fun k => m fun _ => k []) (rT K (aAll R)) :=
  h.map (fun _ => []) fun a v S ⟨x, vs, e, h1, h2⟩ => ⟨x, vs, e, h1, by rw [show vs = [] from h2]; exact .nil⟩
/-- how many items there are, just -/
def ArL (n : Nat) (A : Rq α) : Prop := ∀ a vs S, A a vs S → vs.length = n
theorem arL_nil : ArL 0 aNil := fun _ vs _ h => by rw [show vs = [] from h]; rfl
theorem arL_one {R : Rp α} : ArL 1 (aOne R) := fun _ vs _ ⟨v, e, _⟩ => by rw [e]; rfl
theorem arL_cons {n : Nat} {R : Rp α} {A : Rq γ} (h : ArL n A) : ArL (n + 1) (aCons R A) := fun _ vs _ ⟨v, r, e, _, h2⟩ => by
  rw [e]
  exact congrArg Nat.succ (h _ _ _ h2)
theorem c_lenN {n : Nat} {A : Rq α} {m : (α → μ β) → μ β} (h : Ev p te σ S H m (rT K A)) (hn : ArL n A) : Ev p (tCB (fun xs H Q => ∃ p ys, xs = [.ref p] ∧ (SqL K H p ys ∨ SqT K H p ys) ∧ Q (.int ys.length) H) (tCons te tNil)) σ S H (fun k => m fun _ => k (n : Int)) rI := fun S1 H1 s g ps k z hm Q q =>
  h S1 H1 s g ps _ z hm _ fun xs v S2 H2 s2 g2 p2 ⟨x, vs, e2, h2, r2⟩ hm2 => ⟨x, vs, by rw [e2], .inr (sqT_ex g2.i h2), q _ _ S2 H2 s2 g2 p2 (by show V.int _ = V.int _; rw [hn _ _ _ r2]) hm2⟩
/-- t + u -/
theorem e_catT {A : Rq α} {B : Rq γ} {C : Rq δ} [Mo A] [Mo C] {ma : (α → μ β) → μ β} {mb : (γ → μ β) → μ β} (f : α → γ → δ) (n : Nat) (ha : Ev p ta σ S H ma (rT K A)) (hb : Ev p tb σ S H mb (rT K B))
    (hf : ∀ a b vs ws S, A a vs S → B b ws S → C (f a b) (vs ++ ws) S ∧ vs.length + ws.length ≤ n) (hn : n ≤ sizeLine) :
    Ev p (tOp (rCatA K) ta tb) σ S H (fun k => ma fun a => mb fun b => k (f a b)) (rT K C) := fun S1 H1 s g ps k z hm Q q =>
  ha S1 H1 s g ps _ z hm _ fun a v S2 H2 s2 g2 p2 ⟨x, vs, e, h1, h2⟩ hm2 => hb S2 H2 s2 (g.tr g2) p2 _ z hm2 _ fun b w S3 H3 s3 g3 p3 ⟨y, ws, e', h1', h2'⟩ hm3 => by
    subst e e'
    obtain ⟨hc, hl⟩ := hf a b vs ws S3 (Mo.mo g3.s h2) h2'
    refine ⟨x, y, vs, ws, rfl, rfl, sqT_ex (g3.s.tr g3.i) h1, sqT_ex g3.i h1', Nat.le_trans hl hn, fun e => ?_, fun _ e => ?_, fun _ _ pp hp => ?_⟩
    · exact q _ _ S3 H3 s3 (g2.tr g3) p3 ⟨y, ws, rfl, h1', by rw [e, List.nil_append] at hc; exact hc⟩ hm3
    · exact q _ _ S3 H3 s3 (g2.tr g3) p3 ⟨x, vs, rfl, sqT_ex g3.s h1, by rw [e, List.append_nil] at hc; exact hc⟩ hm3
    · have g4 : Gm p.M S3 H3 (upd S3 pp (.tup (vs ++ ws))) (upd H3 pp (.tup (vs ++ ws))) := Gm.new g3.i hp
      exact q _ _ _ _ s3 ((g2.tr g3).tr g4) (p3.go (Gm.new g3.i hp)) ⟨pp, vs ++ ws, rfl, .of upd_same, Mo.mo g4.s hc⟩ hm3
theorem e_catTL {R : Rp α} [Mo R] {ma mb : (List α → μ β) → μ β} (ha : Ev p ta σ S H ma (rT K (aAll R))) (hb : Ev p tb σ S H mb (rT K (aAll R))) :
    Ev p (tOp (rCatA K) ta tb) σ S H (fun k => ma fun a => mb fun b => Mir.lft (grd (a.length + b.length ≤ 16000000)) >>= fun _ => k (a ++ b)) (rT K (aAll R)) := fun S1 H1 s g ps k z hm Q q =>
  ha S1 H1 s g ps _ z hm _ fun a v S2 H2 s2 g2 p2 ⟨x, vs, e, h1, h2⟩ hm2 => hb S2 H2 s2 (g.tr g2) p2 _ z hm2 _ fun b w S3 H3 s3 g3 p3 ⟨y, ws, e', h1', h2'⟩ hm3 => by
    subst e e'
    obtain ⟨_, eg, hm4⟩ := run_of_lft hm3
    have hg := grd_of eg
    have a1 : All R S2 a vs := h2
    have a2 : All R S3 b ws := h2'
    have hc : All R S3 (a ++ b) (vs ++ ws) := (a1.mo g3.s).app a2
    refine ⟨x, y, vs, ws, rfl, rfl, sqT_ex (g3.s.tr g3.i) h1, sqT_ex g3.i h1', by rw [← a1.len, ← a2.len, sizeLine_eq]; omega, fun e => ?_, fun _ e => ?_, fun _ _ pp hp => ?_⟩
    · exact q _ _ S3 H3 s3 (g2.tr g3) p3 ⟨y, ws, rfl, h1', by rw [e, List.nil_append] at hc; exact hc⟩ hm4
    · exact q _ _ S3 H3 s3 (g2.tr g3) p3 ⟨x, vs, rfl, sqT_ex g3.s h1, by rw [e, List.append_nil] at hc; exact hc⟩ hm4
    · have g4 : Gm p.M S3 H3 (upd S3 pp (.tup (vs ++ ws))) (upd H3 pp (.tup (vs ++ ws))) := Gm.new g3.i hp
      exact q _ _ _ _ s3 ((g2.tr g3).tr g4) (p3.go (Gm.new g3.i hp)) ⟨pp, vs ++ ws, rfl, .of upd_same, All.mo g4.s hc⟩ hm4
theorem cut_all {α : Type} {xs : List α} {lo hi : Option Int} (h : HT.sIx xs.length 0 lo = 0 ∧ HT.sIx xs.length xs.length hi = xs.length) : cut xs lo hi = xs := by
  unfold cut
  rw [h.1, h.2]
  simp
/-- a slice of a tuple -/
theorem e_cutT {R : Rp α} {m : (List α → μ β) → μ β} {ml mh : (Option Int → μ β) → μ β} {tl th : TO} [Mo R] (h : Ev p te σ S H m (rT K (aAll R))) (hl : EvO p tl σ S H ml) (hh : EvO p th σ S H mh) :
    Ev p (tSl (rSlA K) te tl th) σ S H (fun k => m fun xs => ml fun l => mh fun u => k (cut xs l u)) (rT K (aAll R)) := fun S1 H1 s g ps k z hm Q q =>
  h S1 H1 s g ps _ z hm _ fun xs v S2 H2 s2 g2 p2 ⟨x, vs, e, h1, h2⟩ hm2 => hl S2 H2 s2 (g.tr g2) p2 _ z hm2 _ fun lo S3 H3 s3 g3 p3 hm3 => hh S3 H3 s3 ((g.tr g2).tr g3) p3 _ z hm3 _ fun hi S4 H4 s4 g4 p4 hm4 => by
    subst e
    have a1 : All R S4 xs vs := All.mo (g3.s.tr g4.s) h2
    have hq : SqT K S4 x vs := sqT_ex (g3.s.tr g4.s) h1
    refine ⟨x, vs, rfl, sqT_ex g4.i hq, fun e => ?_, fun _ pp hp => ?_⟩
    · have e1 : cut xs lo hi = xs := cut_all (by rw [a1.len]; exact e)
      exact q _ _ S4 H4 s4 ((g2.tr g3).tr g4) p4 ⟨x, vs, rfl, hq, by rw [e1]; exact a1⟩ hm4
    · have g5 : Gm p.M S4 H4 (upd S4 pp (.tup (cutV vs lo hi))) (upd H4 pp (.tup (cutV vs lo hi))) := Gm.new g4.i hp
      exact q _ _ _ _ s4 (((g2.tr g3).tr g4).tr g5) (p4.go (Gm.new g4.i hp)) ⟨pp, _, rfl, .of upd_same, All.mo g5.s (a1.cut lo hi)⟩ hm4
end
end Wk
set_option Elab.async false
set_option maxRecDepth 100000
set_option maxHeartbeats 4000000
set_option linter.all false
/-! W12: texts among texts, values of two kinds, places, greatest of tuples -/
namespace Wk
open PySem L2
open PyProof.Rows hiding St
section
variable {prog : Program} {w : World} {A : Around} {E : Value → Shared → Prop} {s : Shared} {t : Addr} {xs : Array (Int × Tok)}
theorem max_intTuple {Q : Value → Shared → Prop} (hh : A.handled = none) (ht : s.heap.IsTuple t (intItems xs)) (hne : 0 < xs.size)
    (h : ∀ v h' tk, (intItems xs)[argBest (fun i j => decide (numAt xs i > numAt xs j)) (xs.size - 1)]? = some v → (∀ b o, s.heap.get? b = some o → h'.get? b = some o) → Q v { s with heap := h', toks := tk }) :
    wpAny (model prog w) A (call (.builtin "max") [.ref t]) Q E s := by
  have hlt : t < s.heap.objs.size := by obtain ⟨o, ho, _⟩ := ht; exact Heap.lt_size ho
  refine call_max_walk (wpAny_pyIter_tuple ht ?_)
  refine ⟨s.heap.objs.size, [s.heap.objs.size, t], [s.heap.objs.size], _, _, _, _, rfl, Walks.tuple (A := A.in1) hh s.heap.objs.size t (Nat.ne_of_lt hlt) (intItems xs), ⟨⟨_, Heap.get?_push_size _ rfl, rfl, rfl⟩, ht.push _⟩, ?_, by simpa [intItems] using hne, CmpOf.ints_gt (numAt xs) (fun _ _ => intItems_at), fun v h' tk hP hk => ?_⟩
  · intro b hb
    have e : b = s.heap.objs.size ∨ b = t := by simpa using hb
    show b < (s.heap.push _).objs.size
    rw [Heap.size_push]
    rcases e with e | e
    · rw [e]; exact Nat.lt_succ_self _
    · rw [e]; exact Nat.lt_succ_of_lt hlt
  · refine h v h' tk (by simpa [intItems] using hP) fun b o e => hk b o ?_ (Heap.get?_push_of_some _ e)
    intro hb
    have : b = s.heap.objs.size := by simpa using hb
    have h2 := Heap.lt_size e
    rw [this] at h2
    exact absurd h2 (Nat.lt_irrefl _)
end
def rMaxT (K : PySem.W.Frag) : List V → Hp → VK → Prop := fun vs H Q => ∃ (a : Addr) (ns : List Int), vs = [V.ref a] ∧ SqT K H a (ns.map V.int) ∧ 0 < ns.length ∧ ∀ m, m ∈ ns → (∀ y, y ∈ ns → y ≤ m) → Q (.int m) H
section
variable {X : Cx}
theorem cr_maxT (hc : X.calm = true) : CallR X (.builtin "max") (rMaxT X.K) := by
  intro pins s σ H vs us Q I r h
  obtain ⟨a, ns, rfl, hs, hne, q⟩ := h
  obtain ⟨its, rv, ht, _⟩ := I.tuple hs
  rw [Vals.ref1 r]
  have ht : s.heap.IsTuple a its.toArray := ht
  have hi : IntsAre its ns := rv.ints
  obtain ⟨xs, e⟩ := hi.allInts.items
  have hn : numsOf (intItems xs).toList = ns := by rw [← e]; exact hi.numsOf
  rw [nums_intItems] at hn
  subst hn
  rw [e] at ht
  have hsz : 0 < xs.size := by simpa using hne
  refine max_intTuple (I.ok.hd hc) ht hsz fun v h' tk hv hk => ?_
  obtain ⟨t, rfl⟩ := intItems_at hv
  obtain ⟨h1, h2⟩ := argBest_gt (numAt xs) (xs.size - 1)
  refine ⟨.int _, H, I.kept hk, ⟨_, rfl⟩, q _ ?_ fun a ha => ?_⟩
  · rw [numAt_eq]; exact PySem.getD_mem (by rw [List.length_map, Array.length_toList]; omega)
  · obtain ⟨j, hj, rfl⟩ := mem_getD ha
    rw [List.length_map, Array.length_toList] at hj
    rw [← numAt_eq]; exact h2 j (by omega)
theorem k_maxT (K : PySem.W.Frag) (hc : X.calm = true := by rfl) (h : X.K = K := by rfl) : CallR X (.builtin "max") (rMaxT K) := h ▸ cr_maxT hc
theorem k_isi (K : PySem.W.Frag) (h : X.K = K := by rfl) : CallR X (.builtin "isinstance") (rIsi K) := h ▸ call_isi
theorem k_catT (K : PySem.W.Frag) (h : X.K = K := by rfl) : OpR X (binaryOp .Add) (rCatA K) := h ▸ op_catA
theorem k_slt (K : PySem.W.Frag) (h : X.K = K := by rfl) : SlR X (rSlA K) := h ▸ sl_tupA
theorem k_idx {k : Nat} (K : PySem.W.Frag) (hu : Room k X.A) (h : X.K = K := by rfl) : MtR X "list.index" (rIndexD K) := h ▸ mt_indexD (by have := hu.un; omega)
theorem k_cnt (K : PySem.W.Frag) (h : X.K = K := by rfl) : MtR X "list.count" (rCntI K) := h ▸ mt_lcount
theorem k_pieT (K : PySem.W.Frag) {e : Expr} {ta : TA} {p pos tpos : Pos} {elts : List Expr} {kk : Nat} (hg : Gl X "enumerate") (hm : X.mg "enumerate" = none) (ha : PA X [e] ta) (hs : starEach [e] X.env = [(false, eval e X.env)] := by rfl) (h : X.K = K := by rfl) :
    PI X (.Tuple elts kk tpos) (.Call (.Name "enumerate" p) [e] [] pos) (iEnumT K ta) := h ▸ pi_enumT hg hm ha hs
theorem k_pizA (K : PySem.W.Frag) {e e2 : Expr} {ta : TA} {p pos tpos : Pos} {elts : List Expr} {kk : Nat} (hg : Gl X "zip") (hm : X.mg "zip" = none) (ha : PA X [e, e2] ta)
    (hs : starEach [e, e2] X.env = (false, eval e X.env) :: starEach [e2] X.env := by rfl) (hpl : (backTo pos (starEach [e2] X.env)).any (·.1) = false := by rfl) (h : X.K = K := by rfl) :
    PI X (.Tuple elts kk tpos) (.Call (.Name "zip" p) [e, e2] [] pos) (RZ.iZipA K ta) := h ▸ RZ.pi_zipA hg hm ha hs hpl
end
section
variable {P : Program} {w : World} {K : PySem.W.Frag} {mg : Str → Option Value} {base : Heap}
/-- a promise in two cases -/
theorem FnG.cases {CX : CXT} {k : Nat} {f : Addr} {fd : FuncData} {ps : List Str} {sp sp1 sp2 : Sp} (F1 : FnG P w K mg base CX k f fd ps sp1) (F2 : FnG P w K mg base CX k f fd ps sp2)
    (h : ∀ vs H Q E, sp vs H Q E → sp1 vs H Q E ∨ sp2 vs H Q E) : FnG P w K mg base CX k f fd ps sp :=
  ⟨fun vs H Q E q => (h vs H Q E q).elim (F1.len vs H Q E) (F2.len vs H Q E), fun A o s H a us vs Q E hr gd e0 hb rv q => (h vs H Q E q).elim (F1.run A o s H a us vs Q E hr gd e0 hb rv) (F2.run A o s H a us vs Q E hr gd e0 hb rv)⟩
end
section
variable {μ : Type → Type} {τ : Type} [Mir μ τ] {α β γ δ ρ : Type} {p : Pt τ} {σ : St} {S H S0 H0 : Hp} {te ta tb tc : TE} {tt : TT} {K : PySem.W.Frag}
theorem e_ixU {A : Rq α} {B : Rq γ} {R : Rp δ} {n : Int} {f : α → δ} {g : γ → δ} {mA : (α ⊕ γ → μ β) → μ β} (ha : Ev p ta σ S H mA (rU (rT K A) (rT K B))) (hb : tb = tC (.int n)) (hn : ∀ a vs S, A a vs S → ∃ v, L2.atI vs n = some v ∧ R (f a) v S)
    (hn' : ∀ a vs S, B a vs S → ∃ v, L2.atI vs n = some v ∧ R (g a) v S) : Ev p (tOp (rIxT K) ta tb) σ S H (fun k => mA fun a => k (Sum.elim f g a)) R := fun S1 H1 s gg ps k z hm Q q =>
  ha S1 H1 s gg ps _ z hm _ fun a v S2 H2 s2 g2 p2 r hm2 => by
    subst hb
    cases a with
    | inl a =>
      obtain ⟨x, vs, e2, h2, r2⟩ := r
      obtain ⟨u, e4, r4⟩ := hn a vs S2 r2
      exact ⟨x, vs, n, u, e2, rfl, sqT_ex g2.i h2, e4, q _ u S2 H2 s2 g2 p2 r4 hm2⟩
    | inr a =>
      obtain ⟨x, vs, e2, h2, r2⟩ := r
      obtain ⟨u, e4, r4⟩ := hn' a vs S2 r2
      exact ⟨x, vs, n, u, e2, rfl, sqT_ex g2.i h2, e4, q _ u S2 H2 s2 g2 p2 r4 hm2⟩
theorem All.strs {S : Hp} : ∀ {xs : List Str} {vs : List V}, All rS S xs vs → vs = xs.map V.str
  | _, _, .nil => rfl
  | _, _, .cons h t => by rw [t.strs, show _ = V.str _ from h]; rfl
theorem inV_strs (x : Str) (xs : List Str) : inV (.str x) (xs.map V.str) = xs.any fun y => decide (y = x) := by
  unfold inV
  rw [List.any_map]
  rfl
theorem flat_strs (xs : List Str) : (xs.map V.str).all flatV = true := by
  rw [List.all_map]
  simp [flatV]
theorem e_inS {neg : Bool} {mA : (Str → μ β) → μ β} {mB : (List Str → μ β) → μ β} (ha : Ev p ta σ S H mA rS) (hb : Ev p tb σ S H mB (rT K (aAll rS))) : Ev p (tOp (rIn K neg) ta tb) σ S H (fun k => mA fun x => mB fun xs => k (if neg = true then !(xs.any fun y => decide (y = x)) else xs.any fun y => decide (y = x))) rB := fun S1 H1 s g ps k z hm Q q =>
  ha S1 H1 s g ps _ z hm _ fun x v S2 H2 s2 g2 p2 r2 hm2 => hb S2 H2 s2 (g.tr g2) p2 _ z hm2 _ fun xs u S3 H3 s3 g3 p3 ⟨y, us, e3, h3, r3⟩ hm3 => by
    cases (show v = .str x from r2)
    have e4 := All.strs r3
    subst e4
    exact ⟨y, _, e3, .inr (sqT_ex g3.i h3), rfl, flat_strs xs, q _ _ S3 H3 s3 (g2.tr g3) p3 (by rw [inV_strs]; rfl) hm3⟩
/-! == of unlike makes -/
theorem q_N : EqD 0 (fun _ : Unit => PyData.none) := ⟨fun a b => by simp only [PyData.eqv], fun _ => rfl, fun _ => by simp only [PyData.depth]; exact Nat.le_refl _⟩
/-- a written slice of a tuple of known make -/
theorem e_cutC {A : Rq α} {C : Rq γ} [Mo A] [Mo C] {f : α → γ} {lo hi : Option Int} {m : (α → μ β) → μ β} {tl th : TO} (h : Ev p te σ S H m (rT K A)) (hl : EvO (μ := μ) (β := β) p tl σ S H (fun k => k lo)) (hh : EvO (μ := μ) (β := β) p th σ S H (fun k => k hi))
    (hf : ∀ a vs S, A a vs S → C (f a) (cutV vs lo hi) S) : Ev p (tSl (rSlA K) te tl th) σ S H (fun k => m fun a => k (f a)) (rT K C) := fun S1 H1 s g ps k z hm Q q =>
  h S1 H1 s g ps _ z hm _ fun a v S2 H2 s2 g2 p2 ⟨x, vs, e, h1, h2⟩ hm2 => hl S2 H2 s2 (g.tr g2) p2 (fun l => if l = lo then k (f a) else Mir.lft none) z (by show Mir.run (if lo = lo then k (f a) else Mir.lft none) s2 = some z; rw [if_pos rfl]; exact hm2) _ fun lo' S3 H3 s3 g3 p3 hm3 => by
    have el : lo' = lo := Classical.byContradiction fun c => by
      rw [if_neg c, Mir.run_lft] at hm3; cases hm3
    rw [if_pos el] at hm3
    refine hh S3 H3 s3 ((g.tr g2).tr g3) p3 (fun l => if l = hi then k (f a) else Mir.lft none) z (by show Mir.run (if hi = hi then k (f a) else Mir.lft none) s3 = some z; rw [if_pos rfl]; exact hm3) _ fun hi' S4 H4 s4 g4 p4 hm4 => ?_
    have eh : hi' = hi := Classical.byContradiction fun c => by
      rw [if_neg c, Mir.run_lft] at hm4; cases hm4
    rw [if_pos eh] at hm4
    subst el eh e
    have a1 : C (f a) (cutV vs lo' hi') S4 := hf a vs S4 (Mo.mo (g3.s.tr g4.s) h2)
    have hq : SqT K S4 x vs := sqT_ex (g3.s.tr g4.s) h1
    refine ⟨x, vs, rfl, sqT_ex g4.i hq, fun e => ?_, fun _ pp hp => ?_⟩
    · have e1 : cutV vs lo' hi' = vs := by
        unfold cutV
        rw [e.1, e.2]
        simp
      exact q _ _ S4 H4 s4 ((g2.tr g3).tr g4) p4 ⟨x, vs, rfl, hq, by rw [e1] at a1; exact a1⟩ hm4
    · have g5 : Gm p.M S4 H4 (upd S4 pp (.tup (cutV vs lo' hi'))) (upd H4 pp (.tup (cutV vs lo' hi'))) := Gm.new g4.i hp
      exact q _ _ _ _ s4 (((g2.tr g3).tr g4).tr g5) (p4.go (Gm.new g4.i hp)) ⟨pp, _, rfl, .of upd_same, Mo.mo g5.s a1⟩ hm4
theorem c_maxT {m : (List Int → μ β) → μ β} (h : Ev p te σ S H m (rT K (aAll rI))) : Ev p (tCB (rMaxT K) (tCons te tNil)) σ S H (fun k => m fun xs => Mir.lft xs.max? >>= k) rI := fun S1 H1 s g ps k z hm Q q =>
  h S1 H1 s g ps _ z hm _ fun xs v S2 H2 s2 g2 p2 ⟨x, vs, e2, h2, r2⟩ hm2 => by
    obtain ⟨a, e, hm3⟩ := run_of_lft hm2
    subst e2
    refine ⟨x, xs, rfl, by rw [← All.ints r2]; exact sqT_ex g2.i h2, ?_, fun n h1 h2 => q a _ S2 H2 s2 g2 p2 (by rw [max_one e h1 h2]; rfl) hm3⟩
    cases xs with
    | nil => cases e
    | cons _ _ => simp
/-! places, counts -/
theorem idx_get {xs : List Int} {x : Int} {j : Nat} (h : xs.idxOf? x = some j) : xs[j]? = some x ∧ ∀ m y, m < j → xs[m]? = some y → y ≠ x := by
  obtain ⟨h1, h2, h3⟩ := List.idxOf?_eq_some_iff.mp h
  refine ⟨by rw [List.getElem?_eq_getElem h1, h2], fun m y hm hy e => ?_⟩
  obtain ⟨h4, h5⟩ := List.getElem?_eq_some_iff.mp hy
  exact h3 m hm (by rw [h5, e])
theorem dp_ints {H1 : Hp} : ∀ {S1 : Hp} {xs : List Int} {vs : List V}, All rI S1 xs vs → DpAll K H1 vs (xs.map PyData.int)
  | _, _, _, .nil => .nil
  | _, _, _, .cons h t => by
    rw [show _ = V.int _ from h]
    exact .cons (.int _) (dp_ints t)
/-- xs.index(x), found -/
theorem c_idx {m : (List Int → μ β) → μ β} {m' : (Int → μ β) → μ β} (h : EvR p te σ S H m (aAll rI)) (h' : Ev p ta σ S H m' rI) : Ev p (tBM K "list" (rIndexD K) te (tCons ta tNil)) σ S H (fun k => m fun xs => m' fun x => Mir.lft (xs.idxOf? x) >>= fun j => k (j : Int)) rI := fun S1 H1 s g ps k z hm Q q =>
  h S1 H1 s g ps _ z hm _ fun xs a vs S2 H2 s2 g2 p2 e2 m2 r2 hm2 => ⟨.inl ⟨rfl, _, .of e2⟩, h' S2 H2 s2 (g.tr g2) p2 _ z hm2 _ fun x v S3 H3 s3 g3 p3 r3 hm3 => by
    cases (show v = .int x from r3)
    obtain ⟨j, e, hm4⟩ := run_of_lft hm3
    obtain ⟨h1, h2⟩ := idx_get e
    have e3 := g3.h _ _ m2 e2
    have a2 : All rI S3 xs vs := All.mo g3.s r2
    refine ⟨a, .int x, .int x, xs.map PyData.int, j, .int x, rfl, rfl, .lst (.of e3) (dp_ints a2), .int x, shaped_ints xs, (q_I).sh (by decide) x, by rw [List.getElem?_map, h1]; rfl, by simp only [PyData.eqv]; exact beq_self_eq_true x, fun m z' hm hz => ?_, q _ _ S3 H3 s3 (g2.tr g3) p3 rfl hm4⟩
    rw [List.getElem?_map] at hz
    cases hy : xs[m]? with
    | none => rw [hy] at hz; cases hz
    | some y =>
      rw [hy] at hz
      cases hz
      have := h2 m y hm hy
      simp only [PyData.eqv]
      cases hb : y == x with
      | false => rfl
      | true => exact absurd (eq_of_beq hb) this⟩
theorem c_cnt {m : (List Int → μ β) → μ β} {m' : (Int → μ β) → μ β} (h : EvR p te σ S H m (aAll rI)) (h' : Ev p ta σ S H m' rI) : Ev p (tBM K "list" (rCntI K) te (tCons ta tNil)) σ S H (fun k => m fun xs => m' fun x => k (xs.count x : Int)) rI := fun S1 H1 s g ps k z hm Q q =>
  h S1 H1 s g ps _ z hm _ fun xs a vs S2 H2 s2 g2 p2 e2 m2 r2 hm2 => ⟨.inl ⟨rfl, _, .of e2⟩, h' S2 H2 s2 (g.tr g2) p2 _ z hm2 _ fun x v S3 H3 s3 g3 p3 r3 hm3 => by
    cases (show v = .int x from r3)
    have e4 := All.ints r2
    subst e4
    exact ⟨a, xs, x, rfl, rfl, .of (g3.h _ _ m2 e2), q _ _ S3 H3 s3 (g2.tr g3) p3 rfl hm3⟩⟩
end
end Wk
set_option Elab.async false
set_option maxRecDepth 100000
set_option maxHeartbeats 4000000
set_option linter.all false
/-! W13: a list of ones own as an argument, == of what may be none -/
namespace Wk
open PySem L2
open PyProof.Rows hiding St
/-- the list of ones own at a place -/
def rQ {α : Type} (q : Addr) (xs : List α) : Rp (List α) := fun a v _ => a = xs ∧ v = .ref q
instance {α : Type} (q : Addr) (xs : List α) : Mo (rQ q xs) := ⟨fun _ h => h⟩
instance {α γ : Type} {R : Rp α} {R' : Rp γ} [NN R] [NN R'] : NN (rU R R') := ⟨fun a v S h => match a, h with
  | .inl a, h => NN.nn (R := R) a v S h
  | .inr a, h => NN.nn (R := R') a v S h⟩
section
variable {μ : Type → Type} {τ : Type} [Mir μ τ] {α β γ δ ρ ζ : Type} {p : Pt τ} {σ : St} {S H S0 H0 : Hp} {te ta tb tc : TE} {tt : TT} {K : PySem.W.Frag} {L : List (Addr × HO)}
/-- a list of ones own is handed to a def that leaves it as it is, and gives nothing that lives on the heap -/
theorem e_callO {fm : α → Option ρ} {A A' : Rq α} {R : Rp ρ} {t : TA} {E : XK} {m : (α → μ β) → μ β} {q : Addr} {us : List V} {j : Nat} (w : Wd p S0 H0 S H L) (hj : L[j]? = some (q, .lst us)) (h : EvA p t σ S H m A')
    (hA : ∀ a vs S1, Ex S S1 → Ex S1 (upd S1 q (.lst us)) → A' a vs S1 → A a vs (upd S1 q (.lst us))) (hR : ∀ r v S S', R r v S → R r v S') :
    Ev p (tCall (spV F0 fm (fun _ => A) R) [] E t) σ S H (fun k => m fun a => Mir.lft (fm a) >>= k) R := fun S1 H1 s g ps k z hm Q qq =>
  h S1 H1 s g ps _ z hm _ fun a vs S2 H2 s2 g2 p2 r hm2 => by
    obtain ⟨b, e, hm3⟩ := run_of_lft hm2
    have gt := g.tr g2
    have o := w.at hj
    have hM := w.nmAt hj
    have q2 : H2 q = some (.lst us) := gt.h _ _ hM o.1
    have n2 : S2 q = none := gt.f _ _ o.1 o.2.1
    have ex1 : Ex S2 (upd S2 q (.lst us)) := fun x u hx => by
      rw [upd_ne (ne_of_none hx n2)]; exact hx
    have ex2 : Ex (upd S2 q (.lst us)) H2 := fun x u hx => by
      by_cases c : x = q
      · subst c; rw [upd_same] at hx; rw [q2]; exact hx
      · rw [upd_ne c] at hx; exact g2.i x u hx
    refine ⟨(), a, upd S2 q (.lst us), (), b, (), ex2, pot0', by rw [List.append_nil]; exact hA a vs S2 gt.s ex1 r, by show (fm a).map _ = _; rw [e]; rfl, fun v S' H' g3 _ r3 => ?_⟩
    have g4 : Gm [] S2 H2 S2 H' := ⟨Ex.rf, (ex1.tr g3.s).tr g3.i, fun x u hx hu => g3.h x u hx hu, fun x u hx hn => hn, g3.t⟩
    exact qq b v S2 H' s2 (g2.tr (Gm.up g4)) (p2.go g4) (hR _ _ _ _ r3) hm3
theorem hR_I : ∀ (r : Int) v (S S' : Hp), rI r v S → rI r v S' := fun _ _ _ _ h => h
theorem hR_B : ∀ (r : Bool) v (S S' : Hp), rB r v S → rB r v S' := fun _ _ _ _ h => h
theorem hR_S : ∀ (r : Str) v (S S' : Hp), rS r v S → rS r v S' := fun _ _ _ _ h => h
/-! == of what may be none -/
structure NoN (d : α → PyData) : Prop where
  l : ∀ a, PyData.eqv (d a) .none = false
  r : ∀ a, PyData.eqv .none (d a) = false
theorem nn_I : NoN PyData.int := ⟨fun a => by simp only [PyData.eqv], fun a => by simp only [PyData.eqv]⟩
theorem nn_B : NoN PyData.bool := ⟨fun a => by simp only [PyData.eqv], fun a => by simp only [PyData.eqv]⟩
theorem nn_T {ds : α → List PyData} : NoN (fun a => PyData.tuple (ds a)) := ⟨fun a => by simp only [PyData.eqv], fun a => by simp only [PyData.eqv]⟩
theorem nn_L {ds : α → List PyData} : NoN (fun a => PyData.list (ds a)) := ⟨fun a => by simp only [PyData.eqv], fun a => by simp only [PyData.eqv]⟩
theorem q_O {n : Nat} {d : α → PyData} (h : EqD n d) (hn : NoN d) : EqD n (dO d) := by
  refine ⟨fun a b => ?_, fun a => ?_, fun a => ?_⟩
  · cases a with
    | none => cases b with
      | none => simp only [dO, PyData.eqv]
      | some b => simp only [dO, hn.r]; simp
    | some a => cases b with
      | none => simp only [dO, hn.l]; simp
      | some b => simp only [dO]; rw [h.e]; simp
  · cases a with
    | none => rfl
    | some a => exact h.l a
  · cases a with
    | none => simp only [dO, PyData.depth]; omega
    | some a => exact h.d a
end
end Wk
set_option Elab.async false
set_option maxRecDepth 100000
set_option maxHeartbeats 4000000
set_option linter.all false
/-! W14: sorted of pairs, lists of known make put together, extend by any list -/
namespace Wk
open PySem L2
open PyProof.Rows hiding St
/-- a tuple made by a display -/
def rPT {α : Type} (A : Rq α) : Rp α := fun a v S => ∃ p vs, v = .ref p ∧ S p = some (.tup vs) ∧ A a vs S
instance {α : Type} (A : Rq α) [Mo A] : Mo (rPT A) := ⟨fun e ⟨p, vs, h1, h2, h3⟩ => ⟨p, vs, h1, e _ _ h2, Mo.mo e h3⟩⟩
instance {α : Type} {A : Rq α} : NN (rPT A) := ⟨fun _ _ _ ⟨_, _, h, _⟩ e => by rw [h] at e; cases e⟩
theorem rPT.t {α : Type} {K : PySem.W.Frag} {A : Rq α} {a : α} {v : V} {S : Hp} (h : rPT A a v S) : rT K A a v S := by
  obtain ⟨p, vs, h1, h2, h3⟩ := h
  exact ⟨p, vs, h1, .of h2, h3⟩
theorem All.imp {α : Type} {R R' : Rp α} {S : Hp} (h : ∀ a v, R a v S → R' a v S) : ∀ {xs : List α} {vs : List V}, All R S xs vs → All R' S xs vs
  | _, _, .nil => .nil
  | _, _, .cons x t => .cons (h _ _ x) (t.imp h)
/-! lists of pairs, sorted -/
def leP (p q : Int × Int) : Prop := SrtO.lexB q p = false
instance (p q : Int × Int) : Decidable (leP p q) := inferInstanceAs (Decidable (_ = _))
theorem leP_iff {p q : Int × Int} : leP p q ↔ p.1 < q.1 ∨ (p.1 = q.1 ∧ p.2 ≤ q.2) := by
  unfold leP
  cases e : SrtO.lexB q p with
  | true =>
    have := SrtO.lexB_iff.mp e
    constructor
    · intro h; cases h
    · intro h; omega
  | false =>
    have : ¬ (q.1 < p.1 ∨ (q.1 = p.1 ∧ q.2 < p.2)) := fun z => by rw [SrtO.lexB_iff.mpr z] at e; cases e
    exact ⟨fun _ => by omega, fun _ => rfl⟩
def ins2 (x : Int × Int) : List (Int × Int) → List (Int × Int)
  | [] => [x]
  | y :: r => if leP x y then x :: y :: r else y :: ins2 x r
def srt2 : List (Int × Int) → List (Int × Int)
  | [] => []
  | x :: r => ins2 x (srt2 r)
theorem ins2_perm (x : Int × Int) : ∀ l, (ins2 x l).Perm (x :: l)
  | [] => .refl _
  | y :: r => by
    unfold ins2
    split
    · exact .refl _
    · exact ((ins2_perm x r).cons y).trans (.swap x y r)
theorem srt2_perm : ∀ l, (srt2 l).Perm l
  | [] => .refl _
  | x :: r => (ins2_perm x (srt2 r)).trans ((srt2_perm r).cons x)
theorem ins2_sorted (x : Int × Int) : ∀ l, List.Pairwise leP l → List.Pairwise leP (ins2 x l)
  | [], _ => by simp [ins2]
  | y :: r, h => by
    unfold ins2
    obtain ⟨h1, h2⟩ := List.pairwise_cons.mp h
    split
    · rename_i hx
      refine List.pairwise_cons.mpr ⟨fun a ha => ?_, h⟩
      rcases List.mem_cons.mp ha with e | ha
      · rw [e]; exact hx
      · have := leP_iff.mp (h1 a ha)
        have := leP_iff.mp hx
        exact leP_iff.mpr (by omega)
    · rename_i hx
      refine List.pairwise_cons.mpr ⟨fun a ha => ?_, ins2_sorted x r h2⟩
      rcases List.mem_cons.mp ((ins2_perm x r).mem_iff.mp ha) with e | ha
      · rw [e]
        have hx : ¬ (x.1 < y.1 ∨ (x.1 = y.1 ∧ x.2 ≤ y.2)) := fun z => hx (leP_iff.mpr z)
        exact leP_iff.mpr (by omega)
      · exact h1 a ha
theorem srt2_sorted : ∀ l, List.Pairwise leP (srt2 l)
  | [] => .nil
  | x :: r => ins2_sorted x _ (srt2_sorted r)
theorem sorted2_one {a b : List (Int × Int)} (h : a.Perm b) (ha : List.Pairwise leP a) (hb : List.Pairwise leP b) : a = b :=
  h.eq_of_pairwise (fun x y _ _ h1 h2 => by
    have h1 := leP_iff.mp h1
    have h2 := leP_iff.mp h2
    exact Prod.ext (by omega) (by omega)) ha hb
section
variable {μ : Type → Type} {τ : Type} [Mir μ τ] {α β γ δ ρ ζ : Type} {p : Pt τ} {σ : St} {S H S0 H0 : Hp} {te ta tb tc : TE} {tt : TT} {K : PySem.W.Frag} {L : List (Addr × HO)} {D : Ends} {tz : TS} {s : τ} {z : β × τ}
theorem Ev.unP {A : Rq α} {m : (α → μ β) → μ β} (h : Ev p te σ S H m (rPT A)) : Ev p te σ S H m (rT K A) := fun S1 H1 s g ps k z hm Q q =>
  h S1 H1 s g ps k z hm _ fun a v S2 H2 s2 g2 p2 r hm2 => q a v S2 H2 s2 g2 p2 r.t hm2
/-- what may be none, and is not -/
theorem Ev.unO {R : Rp α} {m : (Option α → μ β) → μ β} (h : Ev p te σ S H m (rO R)) : Ev p te σ S H (fun k => m fun a => Mir.lft a >>= k) R := fun S1 H1 s g ps k z hm Q q =>
  h S1 H1 s g ps _ z hm _ fun a v S2 H2 s2 g2 p2 r hm2 => by
    obtain ⟨x, e, hm3⟩ := run_of_lft hm2
    subst e
    exact q x v S2 H2 s2 g2 p2 r hm3
theorem e_tupP {m : (α → μ β) → μ β} {A : Rq α} {t : TA} {n : Nat} [Mo A] (h : EvA p t σ S H m A) (hn : ArN n A) (hz : n ≤ sizeLine) : Ev p (tTup t) σ S H m (rPT A) := fun S1 H1 s g ps k z hm Q q =>
  h S1 H1 s g ps k z hm _ fun a vs S2 H2 s2 g2 p2 r hm2 => ⟨Nat.le_trans (hn _ _ _ r) hz, fun x hx =>
    have g3 : Gm p.M S2 H2 (upd S2 x (.tup vs)) (upd H2 x (.tup vs)) := Gm.new g2.i hx
    q a _ _ _ s2 (g2.tr g3) (p2.go (Gm.new g2.i hx)) ⟨x, vs, rfl, upd_same, Mo.mo g3.s r⟩ hm2⟩
theorem g_pt {g : TG} {A : Rq α} {P : α → St → St → Hp → Prop} (h : Tg g (rT K A) P) : Tg g (rPT A) P := fun a v σ S H Q e r q => h a v σ S H Q e r.t q
theorem d_PT {A : Rq α} {ds : α → List PyData} (h : isDs K A ds) : isD K (rPT A) fun a => .tuple (ds a) := fun a v S H r e => d_T h a v S H r.t e
/-- the pair at a value -/
def prV (S : Hp) : V → Int × Int
  | .ref a => match S a with
    | some (.tup [.int i, .int j]) => (i, j)
    | _ => (0, 0)
  | _ => (0, 0)
theorem prV_eq {S : Hp} {x : Int × Int} {v : V} (h : rPT (aCons rI (aOne rI)) x v S) : ∃ t, v = .ref t ∧ S t = some (.tup [.int x.1, .int x.2]) ∧ prV S v = x := by
  obtain ⟨t, vs, rfl, h2, v1, r, rfl, h3, v2, rfl, h4⟩ := h
  cases (show v1 = .int x.1 from h3)
  cases (show v2 = .int x.2 from h4)
  refine ⟨t, rfl, h2, ?_⟩
  show (match S t with | some (.tup [.int i, .int j]) => (i, j) | _ => ((0 : Int), (0 : Int))) = x
  rw [h2]
theorem All.prs {S : Hp} : ∀ {xs : List (Int × Int)} {vs : List V}, All (rPT (aCons rI (aOne rI))) S xs vs → vs.map (prV S) = xs ∧ ∀ v ∈ vs, ∃ t, v = .ref t ∧ S t = some (.tup [.int (prV S v).1, .int (prV S v).2])
  | _, _, .nil => ⟨rfl, fun _ h => nomatch h⟩
  | _, _, .cons h t => by
    obtain ⟨h1, h2⟩ := t.prs
    obtain ⟨a, e1, e2, e3⟩ := prV_eq h
    refine ⟨by rw [List.map_cons, e3, h1], fun v hv => ?_⟩
    rcases List.mem_cons.mp hv with e | hv
    · rw [e]; exact ⟨a, e1, by rw [e3]; exact e2⟩
    · exact h2 v hv
theorem All.of_prs {S : Hp} : ∀ {vs : List V}, (∀ v ∈ vs, ∃ t, v = .ref t ∧ S t = some (.tup [.int (prV S v).1, .int (prV S v).2])) → All (rT K (aCons rI (aOne rI))) S (vs.map (prV S)) vs
  | [], _ => .nil
  | v :: vs, h => by
    obtain ⟨t, e1, e2⟩ := h v (List.mem_cons_self ..)
    exact .cons ⟨t, _, e1, .of e2, _, _, rfl, rfl, _, rfl, rfl⟩ (All.of_prs fun w hw => h w (List.mem_cons_of_mem _ hw))
/-- sorted(xs), xs pairs of ints -/
theorem l_srtP {m : (List (Int × Int) → μ β) → μ β} (h : EvR p te σ S H m (aAll (rPT (aCons rI (aOne rI))))) : EvL p (tCB (rSortedPO K) (tCons te tNil)) σ S H (fun k => m fun xs => k (srt2 xs)) (aAll (rT K (aCons rI (aOne rI)))) := fun S1 H1 s g ps k z hm Q q =>
  h S1 H1 s g ps _ z hm _ fun xs x vs S2 H2 s2 g2 p2 e2 m2 r2 hm2 => by
    obtain ⟨a1, a2⟩ := All.prs r2
    refine ⟨x, vs, prV S2, rfl, .of e2, fun v hv => ?_, fun ys y h1 h2 hy => ?_⟩
    · obtain ⟨t, e1, e3⟩ := a2 v hv
      exact ⟨t, e1, g2.i _ _ e3⟩
    · have e : ys.map (prV S2) = srt2 xs := by
        refine sorted2_one ?_ ?_ (srt2_sorted xs)
        · have := (h2.perm.map (prV S2))
          rw [a1] at this
          exact this.trans (srt2_perm xs).symm
        · exact List.pairwise_map.mpr h1
      have a3 : All (rT K (aCons rI (aOne rI))) S2 (srt2 xs) ys := by
        rw [← e]
        exact All.of_prs fun v hv => a2 v (h2.perm.mem_iff.mp hv)
      exact q (srt2 xs) y _ S2 _ s2 (g2.tr (Gm.own g2.i hy)) (p2.go (Gm.own g2.i hy)) (back_none g2 hy) upd_same (g2.i.no hy) (new_nM p2 hy) a3 hm2
/-- lists of known make, put together -/
theorem l_catC {A : Rq α} {B : Rq γ} {C : Rq δ} [Mo A] {mA : (α → μ β) → μ β} {mB : (γ → μ β) → μ β} (f : α → γ → δ) (n : Nat) (ha : EvR p ta σ S H mA A) (hb : EvR p tb σ S H mB B) (hf : ∀ a b vs ws S, A a vs S → B b ws S → C (f a b) (vs ++ ws) S ∧ vs.length + ws.length ≤ n) (hn : n ≤ sizeLine) :
    EvL p (tOp rCat ta tb) σ S H (fun k => mA fun a => mB fun b => k (f a b)) C := fun S1 H1 s g ps k z hm Q q =>
  ha S1 H1 s g ps _ z hm _ fun xs x vs S2 H2 s2 g2 p2 e2 m2 r2 hm2 => hb S2 H2 s2 (g.tr g2) p2 _ z hm2 _ fun ys y us S3 H3 s3 g3 p3 e3 m3 r3 hm3 => by
    obtain ⟨hc, hl⟩ := hf xs ys vs us S3 (Mo.mo g3.s r2) r3
    refine ⟨x, y, vs, us, rfl, rfl, g3.h _ _ m2 e2, e3, Nat.le_trans hl hn, fun l hl => ?_⟩
    have n1 : H1 l = none := by
      cases e : H1 l with
      | none => rfl
      | some u => obtain ⟨u', e'⟩ := (g2.tr g3).t l u e; rw [hl] at e'; cases e'
    exact q _ l _ S3 _ s3 ((g2.tr g3).tr (Gm.own g3.i hl)) (p3.go (Gm.own g3.i hl)) n1 upd_same (g3.i.no hl) (new_nM p3 hl) hc hm3
/-- xs.extend(ys), ys any list -/
theorem q_extR {i j : Nat} {q : Addr} {vs : List V} {xs : List α} {m : (List α → μ β) → μ β} {R : Rp α} [Mo R] {k : List α → μ β} (w : Wd p S0 H0 S H L) (ps : PotAt p s S H) (hj : L[j]? = some (q, .lst vs)) (e : σ[i]? = some (some (.ref q))) (ha : All R S xs vs) (h : EvR p te σ S H m (aAll R))
    (hm : Mir.run (m fun a => Mir.lft (grd (xs.length + a.length ≤ 16000000)) >>= fun _ => bnd (xs ++ a) k) s = some z)
    (nx : ∀ ys us S1 H1 s1, Wd p S0 H0 S1 H1 (L.set j (q, .lst us)) → PotAt p s1 S1 H1 → Ex S S1 → All R S1 ys us → Mir.run (k ys) s1 = some z → tz D σ H1) : tSeq (tDrop (tBM K "list" rExtend (tVar i) (tCons te tNil))) tz D σ H :=
  ⟨.ref q, e, ty_own (w.at hj).1, h S H s (Gm.rf w.i) ps _ z hm _ fun a x us S1 H1 s1 g p1 e2 m2 r hm1 => by
    obtain ⟨_, e1, hm1⟩ := run_of_lft hm1
    have hl := grd_of e1
    have w1 := w.go g
    have hr : All R S1 a us := r
    refine ⟨q, x, vs, us, rfl, rfl, (w1.at hj).1, e2, by rw [← ha.len, ← hr.len, sizeLine_eq]; omega, ?_⟩
    exact nx (xs ++ a) (vs ++ us) S1 _ s1 (w1.put hj) (p1.put (w.nmAt hj)) g.s ((ha.mo g.s).app hr) hm1⟩
end
section
variable {X : Cx}
theorem k_srtP (K : PySem.W.Frag) (h : X.K = K := by rfl) : CallR X (.builtin "sorted") (rSortedPO K) := h ▸ cr_sortedPO
end
end Wk
set_option Elab.async false
set_option maxRecDepth 100000
set_option maxHeartbeats 4000000
set_option linter.all false
/-! M0: what a mirror gives, told by rules -/
namespace Wk
open PySem L2
open PyProof.Rows hiding St
section
variable {μ : Type → Type} {τ : Type} [Mir μ τ] {α β γ ζ ρ : Type} {s : τ} {P : β → τ → Prop}
/-- from s on m ends with a value and a state of P -/
def Tt (s : τ) (m : μ α) (P : α → τ → Prop) : Prop := ∃ a s1, Mir.run m s = some (a, s1) ∧ P a s1
theorem tt_pure {a : β} : Tt s (pure a : μ β) P ↔ P a s := by
  constructor
  · rintro ⟨b, s1, e, h⟩
    cases run_of_pure e
    exact h
  · intro h
    exact ⟨a, s, Mir.run_pure _ _, h⟩
theorem tt_bind {m : μ α} {k : α → μ β} : Tt s (m >>= k) P ↔ Tt s m (fun a s1 => Tt s1 (k a) P) := by
  constructor
  · rintro ⟨b, s1, e, h⟩
    obtain ⟨a, s2, e1, e2⟩ := run_of_bind e
    exact ⟨a, s2, e1, b, s1, e2, h⟩
  · rintro ⟨a, s2, e1, b, s1, e2, h⟩
    refine ⟨b, s1, ?_, h⟩
    rw [Mir.run_bind, e1]
    exact e2
theorem tt_grd {c : Prop} [Decidable c] {k : Unit → μ β} : Tt s (Mir.lft (grd c) >>= k) P ↔ c ∧ Tt s (k ()) P := by
  constructor
  · rintro ⟨b, s1, e, h⟩
    obtain ⟨u, e1, e2⟩ := run_of_lft e
    exact ⟨grd_of e1, b, s1, e2, h⟩
  · rintro ⟨hc, b, s1, e, h⟩
    refine ⟨b, s1, ?_, h⟩
    rw [Mir.run_bind, Mir.run_lft, grd, if_pos hc]
    exact e
theorem tt_grP {c : Prop} {k : Unit → μ β} : Tt s (Mir.lft (grP c) >>= k) P ↔ c ∧ Tt s (k ()) P := by
  constructor
  · rintro ⟨b, s1, e, h⟩
    obtain ⟨u, e1, e2⟩ := run_of_lft e
    exact ⟨grP_of e1, b, s1, e2, h⟩
  · rintro ⟨hc, b, s1, e, h⟩
    refine ⟨b, s1, ?_, h⟩
    rw [Mir.run_bind, Mir.run_lft, grP, if_pos hc]
    exact e
theorem tt_lft {o : Option α} {a : α} (e : o = some a) {k : α → μ β} : Tt s (Mir.lft o >>= k) P ↔ Tt s (k a) P := by
  subst e
  constructor
  · rintro ⟨b, s1, e, h⟩
    obtain ⟨u, e1, e2⟩ := run_of_lft e
    cases e1
    exact ⟨b, s1, e2, h⟩
  · rintro ⟨b, s1, e, h⟩
    refine ⟨b, s1, ?_, h⟩
    rw [Mir.run_bind, Mir.run_lft]
    exact e
theorem tt_bnd {a : α} {k : α → μ β} : Tt s (bnd a k) P ↔ Tt s (k a) P := Iff.rfl
theorem tt_ite {c : Prop} [Decidable c] {x y : μ β} : Tt s (if c then x else y) P ↔ if c then Tt s x P else Tt s y P := by
  by_cases h : c
  · rw [if_pos h, if_pos h]
  · rw [if_neg h, if_neg h]
theorem Tt.mono {m : μ β} {P' : β → τ → Prop} (h : Tt s m P) (i : ∀ a s1, P a s1 → P' a s1) : Tt s m P' := by
  obtain ⟨a, s1, e, q⟩ := h
  exact ⟨a, s1, e, i a s1 q⟩
theorem Tt.then {m : μ α} {k : α → μ β} {P' : α → τ → Prop} (h : Tt s m P') (i : ∀ a s1, P' a s1 → Tt s1 (k a) P) : Tt s (m >>= k) P := tt_bind.mpr (h.mono i)
theorem Tt.lft {o : Option α} {Q : α → Prop} (h : ∃ a, o = some a ∧ Q a) {k : α → μ β} (i : ∀ a, Q a → Tt s (k a) P) : Tt s (Mir.lft o >>= k) P := by
  obtain ⟨a, e, q⟩ := h
  exact (tt_lft e).mpr (i a q)
theorem Tt.pos {c : Prop} [Decidable c] {x y : μ β} (h : c) (i : Tt s x P) : Tt s (if c then x else y) P := by rw [if_pos h]; exact i
theorem Tt.neg {c : Prop} [Decidable c] {x y : μ β} (h : ¬ c) (i : Tt s y P) : Tt s (if c then x else y) P := by rw [if_neg h]; exact i
/-- a pure one -/
theorem tt_eq {m : Option α} {v : α} (h : Tt () m (fun a _ => a = v)) : m = some v := by
  obtain ⟨a, s1, e, rfl⟩ := h
  cases m with
  | none => cases e
  | some b => cases e; rfl
theorem tt_ex {m : Option α} {Q : α → Prop} (h : Tt () m (fun a _ => Q a)) : ∃ a, m = some a ∧ Q a := by
  obtain ⟨a, s1, e, q⟩ := h
  cases m with
  | none => cases e
  | some b => cases e; exact ⟨_, rfl, q⟩
theorem tt_of {m : Option α} {v : α} {P : α → Unit → Prop} (e : m = some v) (h : P v ()) : Tt () m P := by
  subst e
  exact ⟨v, (), rfl, h⟩

/-! ### loops -/
/-- while: I holds at the head, nu goes down, R behind -/
theorem Tt.wh {c : ζ → (Bool → μ ζ) → μ ζ} {b : ζ → μ ζ} {R : ζ → τ → Prop} (I : ζ → τ → Prop) (nu : ζ → Nat)
    (h : ∀ st s (k : Bool → μ ζ) (P : ζ → τ → Prop), I st s → (∀ t s1, (t = true → Tt s1 (b st) fun st' s2 => I st' s2 ∧ nu st' < nu st) → (t = false → R st s1) → Tt s1 (k t) P) → Tt s (c st k) P) :
    ∀ (n : Nat) (st : ζ) (s : τ), I st s → nu st < n → Tt s (whS n c b st) R
  | 0, st, s, _, hn => absurd hn (Nat.not_lt_zero _)
  | n + 1, st, s, hI, hn => by
    refine h st s _ _ hI fun t s1 h1 h2 => ?_
    cases t with
    | true =>
      refine Tt.pos rfl ((h1 rfl).then fun st' s2 q => ?_)
      exact Tt.wh I nu h n st' s2 q.1 (by omega)
    | false => exact Tt.neg (by simp) (tt_pure.mpr (h2 rfl))
theorem Tt.whC {c : ζ → (Bool → μ (Ctl ρ ζ)) → μ (Ctl ρ ζ)} {b : ζ → μ (Ctl ρ ζ)} {R : Ctl ρ ζ → τ → Prop} (I : ζ → τ → Prop) (nu : ζ → Nat)
    (h : ∀ st s (k : Bool → μ (Ctl ρ ζ)) (P : Ctl ρ ζ → τ → Prop), I st s → (∀ t s1, (t = true → Tt s1 (b st) fun o s2 => match o with | .go st' => I st' s2 ∧ nu st' < nu st | x => R x s2) → (t = false → R (.go st) s1) → Tt s1 (k t) P) → Tt s (c st k) P) :
    ∀ (n : Nat) (st : ζ) (s : τ), I st s → nu st < n → Tt s (Wk.whC n c b st) R
  | 0, st, s, _, hn => absurd hn (Nat.not_lt_zero _)
  | n + 1, st, s, hI, hn => by
    refine h st s _ _ hI fun t s1 h1 h2 => ?_
    cases t with
    | true =>
      refine Tt.pos rfl ((h1 rfl).then fun o s2 q => ?_)
      cases o with
      | go st' => exact Tt.whC I nu h n st' s2 q.1 (by have := q.2; omega)
      | brk x => exact tt_pure.mpr q
      | ret x => exact tt_pure.mpr q
    | false => exact Tt.neg (by simp) (tt_pure.mpr (h2 rfl))
/-- while, what goes down stands beside -/
theorem Tt.whI {c : ζ → (Bool → μ ζ) → μ ζ} {b : ζ → μ ζ} {R : ζ → τ → Prop} (I : Nat → ζ → τ → Prop)
    (h : ∀ j st s (k : Bool → μ ζ) (P : ζ → τ → Prop), I j st s → (∀ t s1, (t = true → Tt s1 (b st) fun st' s2 => ∃ j', j' < j ∧ I j' st' s2) → (t = false → R st s1) → Tt s1 (k t) P) → Tt s (c st k) P) :
    ∀ (n j : Nat) (st : ζ) (s : τ), I j st s → j < n → Tt s (whS n c b st) R
  | 0, j, st, s, _, hn => absurd hn (Nat.not_lt_zero _)
  | n + 1, j, st, s, hI, hn => by
    refine h j st s _ _ hI fun t s1 h1 h2 => ?_
    cases t with
    | true =>
      refine Tt.pos rfl ((h1 rfl).then fun st' s2 ⟨j', q1, q2⟩ => ?_)
      exact Tt.whI I h n j' st' s2 q2 (by omega)
    | false => exact Tt.neg (by simp) (tt_pure.mpr (h2 rfl))
/-- for: I tells what is left -/
theorem Tt.lp {f : α → ζ → μ ζ} (I : List α → ζ → τ → Prop) (h : ∀ x xs st s, I (x :: xs) st s → Tt s (f x st) (I xs)) : ∀ (xs : List α) (st : ζ) (s : τ), I xs st s → Tt s (lpS xs f st) (I [])
  | [], st, s, hI => tt_pure.mpr hI
  | x :: xs, st, s, hI => (h x xs st s hI).then fun st' s1 q => Tt.lp I h xs st' s1 q
theorem Tt.lpC {f : α → ζ → μ (Ctl ρ ζ)} {R : Ctl ρ ζ → τ → Prop} (I : List α → ζ → τ → Prop) (h : ∀ x xs st s, I (x :: xs) st s → Tt s (f x st) fun o s1 => match o with | .go st' => I xs st' s1 | y => R y s1)
    (h0 : ∀ st s, I [] st s → R (.go st) s) : ∀ (xs : List α) (st : ζ) (s : τ), I xs st s → Tt s (Wk.lpC xs f st) R
  | [], st, s, hI => tt_pure.mpr (h0 st s hI)
  | x :: xs, st, s, hI => (h x xs st s hI).then fun o s1 q => by
    cases o with
    | go st' => exact Tt.lpC I h h0 xs st' s1 q
    | brk y => exact tt_pure.mpr q
    | ret y => exact tt_pure.mpr q
theorem rng_step {lo hi : Int} (h : lo < hi) : rng lo hi = lo :: rng (lo + 1) hi := by
  unfold rng
  have e : (hi - lo).toNat = (hi - (lo + 1)).toNat + 1 := by omega
  rw [e, List.range_succ_eq_map, List.map_cons, List.map_map]
  congr 1
  · simp
  · apply List.map_congr_left
    intro k _
    simp only [Function.comp_apply]
    omega
theorem rng_no {lo hi : Int} (h : hi ≤ lo) : rng lo hi = [] := by
  unfold rng
  have e : (hi - lo).toNat = 0 := by omega
  rw [e]; rfl
theorem rng_len (lo hi : Int) : (rng lo hi).length = (hi - lo).toNat := by unfold rng; rw [List.length_map, List.length_range]
theorem mem_rng {lo hi x : Int} : x ∈ rng lo hi ↔ lo ≤ x ∧ x < hi := by
  unfold rng
  rw [List.mem_map]
  constructor
  · rintro ⟨k, hk, rfl⟩
    have := List.mem_range.mp hk
    omega
  · intro h
    exact ⟨(x - lo).toNat, List.mem_range.mpr (by omega), by omega⟩
/-- for x in range: I tells the place -/
theorem Tt.rg {f : Int → ζ → μ ζ} {hi : Int} (I : Int → ζ → τ → Prop) (h : ∀ x st s, x < hi → I x st s → Tt s (f x st) (I (x + 1))) : ∀ (n : Nat) (lo : Int) (st : ζ) (s : τ), lo + n = hi → I lo st s → Tt s (lpS (rng lo hi) f st) (I hi)
  | 0, lo, st, s, e, hI => by
    have : lo = hi := by omega
    subst this
    rw [rng_no (Int.le_refl _)]
    exact tt_pure.mpr hI
  | n + 1, lo, st, s, e, hI => by
    rw [rng_step (by omega)]
    exact (h lo st s (by omega) hI).then fun st' s1 q => Tt.rg I h n (lo + 1) st' s1 (by omega) q
theorem Tt.rgC {f : Int → ζ → μ (Ctl ρ ζ)} {hi : Int} {R : Ctl ρ ζ → τ → Prop} (I : Int → ζ → τ → Prop) (h : ∀ x st s, x < hi → I x st s → Tt s (f x st) fun o s1 => match o with | .go st' => I (x + 1) st' s1 | y => R y s1)
    (h0 : ∀ st s, I hi st s → R (.go st) s) : ∀ (n : Nat) (lo : Int) (st : ζ) (s : τ), lo + n = hi → I lo st s → Tt s (Wk.lpC (rng lo hi) f st) R
  | 0, lo, st, s, e, hI => by
    have : lo = hi := by omega
    subst this
    rw [rng_no (Int.le_refl _)]
    exact tt_pure.mpr (h0 _ _ hI)
  | n + 1, lo, st, s, e, hI => by
    rw [rng_step (by omega)]
    refine (h lo st s (by omega) hI).then fun o s1 q => ?_
    cases o with
    | go st' => exact Tt.rgC I h h0 n (lo + 1) st' s1 (by omega) q
    | brk y => exact tt_pure.mpr q
    | ret y => exact tt_pure.mpr q
/-- a comprehension: I tells what is left, what was found -/
theorem Tt.cmp {f : α → μ (Option γ)} {R : List γ → τ → Prop} (I : List α → List γ → τ → Prop) (h : ∀ x xs ys s, I (x :: xs) ys s → Tt s (f x) fun o s1 => I xs (ys ++ o.toList) s1) (h0 : ∀ ys s, I [] ys s → R ys s) : ∀ (xs : List α) (ys : List γ) (s : τ), I xs ys s → Tt s (Wk.cmp xs f) fun l s1 => R (ys ++ l) s1
  | [], ys, s, hI => tt_pure.mpr (by rw [List.append_nil]; exact h0 _ _ hI)
  | x :: xs, ys, s, hI => (h x xs ys s hI).then fun o s1 q => (Tt.cmp I h h0 xs _ s1 q).then fun l s2 r => tt_pure.mpr (by
      have e : ys ++ cns o l = ys ++ o.toList ++ l := by cases o <;> simp [cns]
      rw [e]; exact r)
/-- .. each item by itself -/
theorem tt_map {f : α → μ (Option γ)} {g : α → γ} : ∀ {xs : List α} {k : List γ → μ β}, (∀ x ∈ xs, ∀ s (Q : Option γ → τ → Prop), Q (some (g x)) s → Tt s (f x) Q) → (Tt s (k (xs.map g)) P → Tt s (Wk.cmp xs f >>= k) P) := by
  intro xs k h hk
  refine Tt.then (P' := fun l s1 => l = xs.map g ∧ s1 = s) ?_ (fun l s1 q => by rw [q.1, q.2]; exact hk)
  clear hk
  induction xs with
  | nil => exact tt_pure.mpr ⟨rfl, rfl⟩
  | cons x xs ih =>
    refine tt_bind.mpr (h x (List.mem_cons_self ..) s _ ?_)
    refine (ih fun y hy => h y (List.mem_cons_of_mem _ hy)).then fun l s1 q => tt_pure.mpr ⟨?_, q.2⟩
    rw [q.1]; rfl
theorem tt_filterMap {f : α → μ (Option γ)} {g : α → Option γ} : ∀ {xs : List α} {k : List γ → μ β}, (∀ x ∈ xs, ∀ s (Q : Option γ → τ → Prop), Q (g x) s → Tt s (f x) Q) → (Tt s (k (xs.filterMap g)) P → Tt s (Wk.cmp xs f >>= k) P) := by
  intro xs k h hk
  refine Tt.then (P' := fun l s1 => l = xs.filterMap g ∧ s1 = s) ?_ (fun l s1 q => by rw [q.1, q.2]; exact hk)
  clear hk
  induction xs with
  | nil => exact tt_pure.mpr ⟨rfl, rfl⟩
  | cons x xs ih =>
    refine tt_bind.mpr (h x (List.mem_cons_self ..) s _ ?_)
    refine (ih fun y hy => h y (List.mem_cons_of_mem _ hy)).then fun l s1 q => tt_pure.mpr ⟨?_, q.2⟩
    rw [q.1, List.filterMap_cons]
    cases g x <;> rfl
end
theorem lt_many {n : Nat} (h : n < 10 ^ 40) : n < many := by
  unfold many
  exact h
theorem sm_of {a : Int} (h1 : -10 ^ 4000 < a) (h2 : a < 10 ^ 4000) : Sm a := by
  refine Sm.of (n := 14000) ?_ (by decide) (by decide)
  have e : (10 : Nat) ^ 4000 ≤ 2 ^ 14000 := by decide +kernel
  have e2 : ((10 ^ 4000 : Nat) : Int) = 10 ^ 4000 := by push_cast; rfl
  generalize h3 : (10 : Nat) ^ 4000 = x at e e2
  generalize h4 : (2 : Nat) ^ 14000 = y at e ⊢
  rw [← e2] at h1 h2
  omega
theorem sm_lt {a : Int} {b : Nat} (h : a.natAbs ≤ b) (hb : b < 10 ^ 4000) : Sm a := by
  have e2 : ((10 ^ 4000 : Nat) : Int) = 10 ^ 4000 := by push_cast; rfl
  refine sm_of ?_ ?_ <;> rw [← e2] <;> generalize (10 : Nat) ^ 4000 = x at hb <;> omega
theorem dv_of {a : Int} (h0 : 0 < a) (h : a < 2 ^ 1000) : Dv a := by
  refine ⟨h0, ?_⟩
  refine PySem.Flt.log2_lt_of (by decide) (Nat.lt_trans (m := 2 ^ 1000) ?_ (by decide +kernel))
  have e2 : ((2 ^ 1000 : Nat) : Int) = 2 ^ 1000 := by push_cast; rfl
  rw [← e2] at h
  generalize (2 : Nat) ^ 1000 = x at h ⊢
  omega
end Wk
set_option Elab.async false
set_option maxRecDepth 100000
set_option maxHeartbeats 4000000
set_option linter.all false
/-! M1: what all laws need: sizes, ranges with a step, what repr takes, the pot's state -/
namespace Wk
open PySem L2
open PyProof.Rows hiding St
theorem sm_small {a : Int} (h : a.natAbs ≤ 10 ^ 30) : Sm a := sm_lt h (by decide)
theorem sm_nat {a : Nat} (h : a ≤ 10 ^ 30) : Sm (a : Int) := sm_small (by omega)
theorem sm_pow {a k : Nat} (h : a ≤ 10 ^ k) (hk : k ≤ 1000) : Sm (a : Int) := sm_lt (b := 10 ^ 1000) (by rw [Int.natAbs_natCast]; exact Nat.le_trans h (Nat.pow_le_pow_right (by decide) hk)) (by decide +kernel)
theorem dv_nat {p : Nat} (hp : 0 < p) (hq : p < 10 ^ 40) : Dv (p : Int) := by
  refine dv_of (by omega) (Int.lt_trans (b := 10 ^ 40) (by omega) (by decide))
theorem dec_nat {a b : Nat} : decide ((a : Int) = (b : Int)) = decide (a = b) := decide_eq_decide.mpr (by omega)
theorem atI_nat {α : Type} {xs : List α} {i : Nat} (h : i < xs.length) : atI xs (i : Int) = xs[i]? := by
  unfold atI ixN
  rw [if_pos (by omega), if_pos (by omega)]
  simp
theorem atI_last {α : Type} {xs : List α} {n : Nat} (h : xs.length = n + 1) : atI xs (-1) = xs[n]? := by
  unfold atI ixN
  rw [if_neg (by decide), if_pos (by omega), h]
  show xs[(-1 + ((n + 1 : Nat) : Int)).toNat]? = _
  congr 1
  omega
theorem rs_pos {a b c : Int} (hc : 0 < c) : Builtin.Range.rangeSize a b c = if a < b then (b - a - 1) / c + 1 else 0 := by
  unfold Builtin.Range.rangeSize
  rw [if_pos (by omega)]
theorem mem_rng3 {a b c x : Int} (hc : 0 < c) : x ∈ rng3 a b c ↔ ∃ k : Nat, x = a + (k : Int) * c ∧ x < b := by
  unfold rng3
  rw [rs_pos hc, List.mem_map]
  constructor
  · rintro ⟨k, hk, rfl⟩
    refine ⟨k, rfl, ?_⟩
    have hk := List.mem_range.mp hk
    by_cases h : a < b
    · rw [if_pos h] at hk
      have : (k : Int) ≤ (b - a - 1) / c := by omega
      have := (Int.le_ediv_iff_mul_le hc).mp this
      omega
    · rw [if_neg h] at hk
      simp at hk
  · rintro ⟨k, rfl, hx⟩
    have h0 : 0 ≤ (k : Int) * c := Int.mul_nonneg (by omega) (by omega)
    refine ⟨k, List.mem_range.mpr ?_, rfl⟩
    rw [if_pos (by omega)]
    have : (k : Int) ≤ (b - a - 1) / c := (Int.le_ediv_iff_mul_le hc).mpr (by omega)
    omega
theorem rg3_ok {a b c : Int} (hc : 0 < c) (hc2 : c < 1000000) (ha : 0 ≤ a) (ha2 : a < 2 ^ 60) (hb : 0 ≤ b) (hb2 : b < 2 ^ 60) : Rg3 a b c := by
  have hq : 0 ≤ (b - a - 1) / c ∨ ¬ a < b := by
    by_cases h : a < b
    · exact .inl (Int.ediv_nonneg (by omega) (by omega))
    · exact .inr h
  have hq2 : (b - a - 1) / c ≤ 2 ^ 60 ∨ ¬ a < b := by
    by_cases h : a < b
    · refine .inl (Int.le_trans (Int.ediv_le_self _ (by omega)) (by omega))
    · exact .inr h
  refine ⟨by omega, by omega, ?_, ?_⟩
  · unfold Builtin.Range.small
    rw [rs_pos hc]
    simp only [Builtin.Range.rangeFitsLong, Bool.and_eq_true, Bool.or_eq_true, decide_eq_true_eq, beq_iff_eq, show c > 0 from hc, if_true]
    generalize (b - a - 1) / c = q at *
    split <;> omega
  · rw [rs_pos hc]
    generalize (b - a - 1) / c = q at *
    split <;> omega
def Shp (D B : Nat) (d : PyData) : Prop := d.depth ≤ D ∧ wt d ≤ B
theorem shp_int {i : Int} (h : i.natAbs < 10 ^ 40) : Shp 0 50 (.int i) := ⟨by simp only [PyData.depth]; exact Nat.le_refl _, by simp only [wt]; rw [if_pos h]; exact Nat.le_refl _⟩
theorem shp_big {i : Int} (h : i.natAbs.log2 < 12900) : Shp 0 13000 (.int i) := ⟨by simp only [PyData.depth]; exact Nat.le_refl _, by
  simp only [wt]
  split
  · decide
  · exact Nat.le_refl _⟩
theorem shp_all {D B : Nat} : ∀ {l : List PyData}, (∀ x ∈ l, Shp D B x) → PyData.depthAll l ≤ D ∧ wts l ≤ l.length * (B + 2)
  | [], _ => ⟨by simp only [PyData.depthAll]; omega, by simp only [wts]; omega⟩
  | x :: l, h => by
    obtain ⟨h1, h2⟩ := h x (List.mem_cons_self ..)
    obtain ⟨h3, h4⟩ := shp_all (l := l) fun y hy => h y (List.mem_cons_of_mem _ hy)
    refine ⟨by simp only [PyData.depthAll]; omega, ?_⟩
    simp only [wts]
    rw [List.length_cons, Nat.add_mul]
    omega
theorem shp_list {D B n : Nat} {l : List PyData} (hl : l.length ≤ n) (h : ∀ x ∈ l, Shp D B x) : Shp (D + 1) (n * (B + 2) + 3) (.list l) := by
  obtain ⟨h1, h2⟩ := shp_all h
  have := Nat.mul_le_mul_right (B + 2) hl
  exact ⟨by simp only [PyData.depth]; omega, by simp only [wt]; omega⟩
theorem shp_tup {D B n : Nat} {l : List PyData} (hl : l.length ≤ n) (h : ∀ x ∈ l, Shp D B x) : Shp (D + 1) (n * (B + 2) + 3) (.tuple l) := by
  obtain ⟨h1, h2⟩ := shp_all h
  have := Nat.mul_le_mul_right (B + 2) hl
  exact ⟨by simp only [PyData.depth]; omega, by simp only [wt]; omega⟩
theorem Shp.le {D B D' B' : Nat} {d : PyData} (h : Shp D B d) (h1 : D ≤ D') (h2 : B ≤ B') : Shp D' B' d := ⟨Nat.le_trans h.1 h1, Nat.le_trans h.2 h2⟩
theorem Shp.ok {D B : Nat} {d : PyData} (h : Shp D B d) (h1 : D ≤ 50) (h2 : B ≤ 16000000) : OkD d := ⟨Nat.le_trans h.1 h1, Nat.le_trans h.2 h2⟩
theorem cut_head {α : Type} (xs : List α) (n : Nat) : cut xs none (some (n : Int)) = xs.take n := by
  unfold cut HT.sIx
  simp only [List.drop_zero, Nat.sub_zero]
  rw [if_neg (by omega), Int.toNat_natCast]
  by_cases h : n ≤ xs.length
  · rw [Nat.min_eq_left h]
  · rw [Nat.min_eq_right (by omega), List.take_of_length_le (Nat.le_refl _), List.take_of_length_le (by omega)]
theorem bits_sm {i : Int} (h : Builtin.Int.intBits i ≤ 1048576) : i.natAbs.log2 ≤ 1048576 := by
  unfold Builtin.Int.intBits at h
  split at h
  · rename_i z
    have : i = 0 := by simpa using z
    subst this; decide
  · omega
theorem abs_if (i : Int) : (if i < 0 then -i else i) = (i.natAbs : Int) := by split <;> omega
/-- a lot of values whose sizes are small -/
theorem shp_bool {b : Bool} : Shp 0 50 (.bool b) := ⟨by simp only [PyData.depth]; exact Nat.le_refl _, by simp only [wt]; decide⟩
theorem shp_none : Shp 0 50 .none := ⟨by simp only [PyData.depth]; exact Nat.le_refl _, by simp only [wt]; decide⟩
theorem Shp.l1 {D B : Nat} {a : PyData} (h : Shp D B a) : ∀ x ∈ [a], Shp D B x := fun x hx => by rw [List.mem_singleton.mp hx]; exact h
theorem Shp.lc {D B : Nat} {a : PyData} {l : List PyData} (h : Shp D B a) (t : ∀ x ∈ l, Shp D B x) : ∀ x ∈ a :: l, Shp D B x := fun x hx => by
  rcases List.mem_cons.mp hx with e | e
  · rw [e]; exact h
  · exact t x e
theorem shp_nil {D B : Nat} : ∀ x ∈ ([] : List PyData), Shp D B x := fun x hx => nomatch hx
theorem shp_map {α : Type} {D B : Nat} {f : α → PyData} {l : List α} (h : ∀ a ∈ l, Shp D B (f a)) : ∀ x ∈ l.map f, Shp D B x := fun x hx => by
  obtain ⟨a, ha, rfl⟩ := List.mem_map.mp hx
  exact h a ha
/-- the pot, b draws may follow -/
structure Pot (s : PotT) (b : Nat) : Prop where
  g : ∀ c ∈ s.great, 0 ≤ c
  l : s.great.length ≤ 100
  m0 : 0 ≤ s.mix
  m1 : s.mix < 2 ^ 40
  t0 : 0 ≤ s.turn
  t1 : s.turn + b ≤ 10 ^ 9
theorem Pot.le {s : PotT} {b c : Nat} (h : Pot s b) (hc : c ≤ b) : Pot s c := ⟨h.g, h.l, h.m0, h.m1, h.t0, by have := h.t1; omega⟩
/-- ascending lists with the same items are one -/
theorem asc_eq : ∀ {l r : List Int}, l.Pairwise (· < ·) → r.Pairwise (· < ·) → (∀ x, x ∈ l ↔ x ∈ r) → l = r
  | [], [], _, _, _ => rfl
  | [], y :: r, _, _, h => absurd ((h y).mpr (List.mem_cons_self ..)) (by simp)
  | x :: l, [], _, _, h => absurd ((h x).mp (List.mem_cons_self ..)) (by simp)
  | x :: l, y :: r, h1, h2, h => by
    have a1 := List.pairwise_cons.mp h1
    have a2 := List.pairwise_cons.mp h2
    have e : x = y := by
      rcases List.mem_cons.mp ((h x).mp (List.mem_cons_self ..)) with z | z
      · exact z
      · rcases List.mem_cons.mp ((h y).mpr (List.mem_cons_self ..)) with w | w
        · exact w.symm
        · have b1 := a2.1 x z
          have b2 := a1.1 y w
          omega
    subst e
    congr 1
    refine asc_eq a1.2 a2.2 fun z => ?_
    constructor
    · intro hz
      rcases List.mem_cons.mp ((h z).mp (List.mem_cons_of_mem _ hz)) with w | w
      · have := a1.1 z hz
        rw [w] at this; omega
      · exact w
    · intro hz
      rcases List.mem_cons.mp ((h z).mpr (List.mem_cons_of_mem _ hz)) with w | w
      · have := a2.1 z hz
        rw [w] at this; omega
      · exact w
theorem rng3_asc {a b c : Int} (hc : 0 < c) : (rng3 a b c).Pairwise (· < ·) := by
  unfold rng3
  rw [List.pairwise_map]
  refine List.Pairwise.imp ?_ List.pairwise_lt_range
  intro i j h
  have : (i : Int) * c < (j : Int) * c := Int.mul_lt_mul_of_pos_right (by omega) hc
  omega
theorem rng_asc {a b : Int} : (rng a b).Pairwise (· < ·) := by
  unfold rng
  rw [List.pairwise_map]
  refine List.Pairwise.imp ?_ List.pairwise_lt_range
  intro i j h
  omega
end Wk
set_option Elab.async false
set_option maxRecDepth 100000
set_option maxHeartbeats 4000000
set_option linter.all false
namespace Wk
open PySem L2
open PyProof.Rows hiding St
def top (i : Nat) : Stmt := PySem.Challenge.pw_divisorways_k87_whole_perfect_and_kinds.main.body.getD i (.Pass ⟨0, 0, 0, 0⟩)
abbrev potHd : Addr → Int → Int → HO := hdL
abbrev potPt (i : PotI) : Pt PotT := potOf potHd i
structure Tx (mg : Str → Option Value) (base : Heap) : Prop where
  nd : base.NoDigits
  n_abs : mg "abs" = none
  n_all : mg "all" = none
  n_bool : mg "bool" = none
  n_int : mg "int" = none
  n_isinstance : mg "isinstance" = none
  n_len : mg "len" = none
  n_list : mg "list" = none
  n_range : mg "range" = none
  n_repr : mg "repr" = none
  n_sorted : mg "sorted" = none
  n_str : mg "str" = none
  n_sum : mg "sum" = none
  n_tuple : mg "tuple" = none
  c_MAX_EXPONENT : ∃ t, mg "MAX_EXPONENT" = some (.int 607 t)
abbrev t_is_integer : Stmt := top 6
theorem sc_is_integer : FnScope ["value"] ["value"] (defScope t_is_integer) := ⟨rfl, rfl, rfl, by decide +kernel, rfl, by decide +kernel, by decide +kernel⟩
@[irreducible] noncomputable def m_is_integer (p_value : Int) : Option Bool :=
bnd (true && (!false)) fun r8 => pure r8
noncomputable abbrev fm_is_integer : (Int) → Option Bool := fun a => m_is_integer a
abbrev sp_is_integer (K : PySem.W.Frag) : Sp := spV F0 fm_is_integer (fun _ => (aOne rI)) rB
section
variable {P : Program} {w : World} {K : PySem.W.Frag} {mg : Str → Option Value} {base : Heap}
theorem g_is_integer (T : Tx mg base)  {f : Addr} {fd : FuncData} (F : Fun K "is_integer" "is_integer" t_is_integer f fd) : FnG P w K mg base CX0 1 f fd ["value"] (sp_is_integer K) := by
  refine okG0 F sc_is_integer (fun vs H Q E h => ?_) (fun cdv A outer s0_ H0 vs Q E hr gd h => ?_)
  · obtain ⟨_, _, _, _, _, _, _, _, ⟨_, rfl, _⟩, _⟩ := h
    rfl
  · obtain ⟨_, p_value, S0, s0, r, s', e0, p0, ⟨_, rfl, rfl⟩, hm0, fin0⟩ := h
    have fin : ∀ v {H' : Hp}, (∃ S', Gm (pt0).M S0 H0 S' H' ∧ PotAt pt0 s' S' H' ∧ rB r v S') → Q v H' := fun v {H'} ⟨S', h1, h2, h3⟩ => fin0 v S' H' h1 h2 h3
    have w0 : Wd pt0 S0 H0 S0 H0 [] := Wd.start e0
    have hm0 : Mir.run (m_is_integer p_value) s0 = some (r, s') := hm0
    unfold m_is_integer at hm0
    have sc := sc_is_integer
    refine ⟨_, pss_cons (ps_ret (pe_and (pe_callB (k_isi K) (by rfl) T.n_isinstance (by decide +kernel) (pa_cons (pv 0) (pa_cons (pe_bltn (v := .ty "int") (u := .type "int") rfl T.n_int (by decide +kernel) rfl) pa_nil))) (pe_one (pe_not (pe_callB (k_isi K) (by rfl) T.n_isinstance (by decide +kernel) (pa_cons (pv 0) (pa_cons (pe_bltn (v := .ty "bool") (u := .type "bool") rfl T.n_bool (by decide +kernel) rfl) pa_nil))))))) (pss_nil), ?_⟩
    refine q_ret w0 p0 (e_andT (c_isi (K := K) (U := "int") (b := true) (e_var (R := rI) rfl rfl) ty_I (kit_ty (by decide +kernel))) (e_not (c_isi (K := K) (U := "bool") (b := false) (e_var (R := rI) rfl rfl) ty_I (kit_ty (by decide +kernel))))) hm0 ?_
    intro r8 v9 S1 H2 s3 w4 p5 g7 rr10 hm6
    cases run_of_pure hm6
    exact fin _ ⟨S1, w4.g, p5, rr10⟩
end
abbrev t_taken_out : Stmt := top 7
theorem sc_taken_out : FnScope ["number", "p", "often"] ["number", "p"] (defScope t_taken_out) := ⟨rfl, rfl, rfl, by decide +kernel, rfl, by decide +kernel, by decide +kernel⟩
@[irreducible] noncomputable def m_taken_out (p_number : Int) (p_p : Int) : Option (Int × Int) :=
bnd (0 : Int) fun often1 =>
(whS many (fun (st11 : Int × Int) k => Mir.lft (grd (0 < p_p)) >>= fun _ => k (decide ((st11.1 % p_p) = (0 : Int)))) (fun (st11 : Int × Int) =>
bnd (st11.2 + (1 : Int)) fun often42 =>
Mir.lft (grd (Dv p_p)) >>= fun _ => bnd (st11.1 / p_p) fun number52 =>
pure (number52, often42)) (p_number, often1)) >>= fun (st11 : Int × Int) =>
bnd (st11.2, st11.1) fun r76 => pure r76
noncomputable abbrev fm_taken_out : (Int × Int) → Option (Int × Int) := fun (a0, a1) => m_taken_out a0 a1
abbrev sp_taken_out (K : PySem.W.Frag) : Sp := spV F0 fm_taken_out (fun _ => (aCons rI (aOne rI))) (rT K (aCons rI (aOne rI)))
section
variable {P : Program} {w : World} {K : PySem.W.Frag} {mg : Str → Option Value} {base : Heap}
theorem g_taken_out (T : Tx mg base)  {f : Addr} {fd : FuncData} (F : Fun K "taken_out" "taken_out" t_taken_out f fd) : FnG P w K mg base CX0 1 f fd ["number", "p"] (sp_taken_out K) := by
  refine okG0 F sc_taken_out (fun vs H Q E h => ?_) (fun cdv A outer s0_ H0 vs Q E hr gd h => ?_)
  · obtain ⟨_, _, _, _, _, _, _, _, ⟨_, _, rfl, _, ⟨_, rfl, _⟩⟩, _⟩ := h
    rfl
  · obtain ⟨_, a, S0, s0, r, s', e0, p0, ⟨_, _, rfl, rfl, ⟨_, rfl, rfl⟩⟩, hm0, fin0⟩ := h
    obtain ⟨p_number, p_p⟩ := a
    have fin : ∀ v {H' : Hp}, (∃ S', Gm (pt0).M S0 H0 S' H' ∧ PotAt pt0 s' S' H' ∧ (rT K (aCons rI (aOne rI))) r v S') → Q v H' := fun v {H'} ⟨S', h1, h2, h3⟩ => fin0 v S' H' h1 h2 h3
    have w0 : Wd pt0 S0 H0 S0 H0 [] := Wd.start e0
    have hm0 : Mir.run (m_taken_out p_number p_p) s0 = some (r, s') := hm0
    unfold m_taken_out at hm0
    have sc := sc_taken_out
    refine ⟨_, pss_cons (ps_set (i := 2) sc.nd rfl (by first | exact Or.inl rfl | exact Or.inr rfl) (pe_int)) (pss_cons (ps_while PassesOwn.never (pt_cmpR op_eq (pe_op op_mod (pv 0) (pv 1)) (pe_int) (nomark _)) (pss_cons (ps_par (i := 2) (j := 0) rfl sc.nd rfl rfl (by decide) rfl rfl (pa_cons (pe_op op_add (pv 2) (pe_int)) (pa_cons (pe_op op_fdivW (pv 0) (pv 1)) (pa_nil))) (by rfl)) (pss_nil))) (pss_cons (ps_ret (pe_tup (pa_cons (pv 2) (pa_cons (pv 0) (pa_nil))))) (pss_nil))), ?_⟩
    refine q_set (fun v => [some (.int p_number), some (.int p_p), some v]) (fun _ => rfl) w0 p0 e_cI hm0 ?_
    intro often1 voften9 S2 H3 s4 w5 p6 g8 roften10 hm7
    cases (show voften9 = .int often1 from roften10)
    refine q_wh (p := pt0) (fun st11 σ S' H' s' => σ = [some (.int st11.1), some (.int p_p), some (.int st11.2)] ∧ Wd pt0 S0 H0 S' H' [] ∧ PotAt pt0 s' S' H' ∧ Ex S2 S') ⟨rfl, w5, p6, Ex.rf⟩ hm7 ?_ ?_ ?_ ?_
    · rintro st11 _ S17 H18 s19 ⟨rfl, w14, p15, eb16⟩
      exact ⟨p15, w14.i, (t_Test (e_eq (e_mod (e_var (R := rI) rfl rfl) (e_var (R := rI) rfl rfl)) e_cI))⟩
    · rintro st11 _ S23 H24 s25 S26 H27 s28 ⟨rfl, w20, p21, eb22⟩ g29 p30
      exact ⟨rfl, w20.go g29, p30, eb22.tr g29.s⟩
    · rintro st11 _ S34 H35 s36 st11_ s2_ D_ ⟨rfl, w31, p32, eb33⟩ hm37 nx38
      refine par_go ?_
      refine x_ev w31 p32 (e_add (e_var (R := rI) rfl rfl) e_cI) hm37 ?_
      intro often42 voften50 S43 H44 s45 w46 p47 g49 roften51 hm48
      cases (show voften50 = .int often42 from roften51)
      have eb33 := eb33.tr g49.s
      refine x_ev w46 p47 (e_fdiv (e_var (R := rI) rfl rfl) (e_var (R := rI) rfl rfl)) hm48 ?_
      intro number52 vnumber60 S53 H54 s55 w56 p57 g59 rnumber61 hm58
      cases (show vnumber60 = .int number52 from rnumber61)
      have eb33 := eb33.tr g59.s
      refine par_end [some (.int number52), some (.int p_p), some (.int often42)] rfl ?_
      cases run_of_pure hm58
      exact (nx38 _ _ _ ⟨rfl, w56, p57, eb33⟩).1
    · rintro st11 _ S65 H66 s67 ⟨rfl, w62, p63, eb64⟩ hm68
      refine q_ret w62 p63 (e_tup (K := K) (a_cons (e_var (R := rI) rfl rfl) (a_one (e_var (R := rI) rfl rfl))) (arN_cons arN_one) (by decide)) hm68 ?_
      intro r76 v77 S69 H70 s71 w72 p73 g75 rr78 hm74
      cases run_of_pure hm74
      exact fin _ ⟨S69, w72.g, p73, rr78⟩
end
abbrev t_power_left : Stmt := top 9
theorem sc_power_left : FnScope ["base", "often", "number", "found"] ["base", "often", "number"] (defScope t_power_left) := ⟨rfl, rfl, rfl, by decide +kernel, rfl, by decide +kernel, by decide +kernel⟩
@[irreducible] noncomputable def m_power_left (p_base : Int) (p_often : Int) (p_number : Int) : Option Int :=
bnd (1 : Int) fun found1 =>
Mir.lft (grd (0 < p_number)) >>= fun _ => bnd (p_base % p_number) fun base11 =>
(whS many (fun (st21 : Int × Int × Int) k => k (decide ((0 : Int) < st21.2.1))) (fun (st21 : Int × Int × Int) =>
Mir.lft (grd (0 < (2 : Int))) >>= fun _ => ((if (decide ((st21.2.1 % (2 : Int)) = (1 : Int))) = true then
(Mir.lft (grd (Sm st21.2.2 ∧ Sm st21.1)) >>= fun _ => Mir.lft (grd (0 < p_number)) >>= fun _ => bnd ((st21.2.2 * st21.1) % p_number) fun found62 =>
pure found62)
else
(pure st21.2.2)) >>= fun (st52 : Int) =>
Mir.lft (grd (Sm st21.1 ∧ Sm st21.1)) >>= fun _ => Mir.lft (grd (0 < p_number)) >>= fun _ => bnd ((st21.1 * st21.1) % p_number) fun base88 =>
Mir.lft (grd (Dv (2 : Int))) >>= fun _ => bnd (st21.2.1 / (2 : Int)) fun often98 =>
pure (base88, often98, st52))) (base11, p_often, found1)) >>= fun (st21 : Int × Int × Int) =>
bnd st21.2.2 fun r122 => pure r122
noncomputable abbrev fm_power_left : (Int × Int × Int) → Option Int := fun (a0, a1, a2) => m_power_left a0 a1 a2
abbrev sp_power_left (K : PySem.W.Frag) : Sp := spV F0 fm_power_left (fun _ => (aCons rI (aCons rI (aOne rI)))) rI
section
variable {P : Program} {w : World} {K : PySem.W.Frag} {mg : Str → Option Value} {base : Heap}
theorem g_power_left (T : Tx mg base)  {f : Addr} {fd : FuncData} (F : Fun K "power_left" "power_left" t_power_left f fd) : FnG P w K mg base CX0 1 f fd ["base", "often", "number"] (sp_power_left K) := by
  refine okG0 F sc_power_left (fun vs H Q E h => ?_) (fun cdv A outer s0_ H0 vs Q E hr gd h => ?_)
  · obtain ⟨_, _, _, _, _, _, _, _, ⟨_, _, rfl, _, ⟨_, _, rfl, _, ⟨_, rfl, _⟩⟩⟩, _⟩ := h
    rfl
  · obtain ⟨_, a, S0, s0, r, s', e0, p0, ⟨_, _, rfl, rfl, ⟨_, _, rfl, rfl, ⟨_, rfl, rfl⟩⟩⟩, hm0, fin0⟩ := h
    obtain ⟨p_base, p_often, p_number⟩ := a
    have fin : ∀ v {H' : Hp}, (∃ S', Gm (pt0).M S0 H0 S' H' ∧ PotAt pt0 s' S' H' ∧ rI r v S') → Q v H' := fun v {H'} ⟨S', h1, h2, h3⟩ => fin0 v S' H' h1 h2 h3
    have w0 : Wd pt0 S0 H0 S0 H0 [] := Wd.start e0
    have hm0 : Mir.run (m_power_left p_base p_often p_number) s0 = some (r, s') := hm0
    unfold m_power_left at hm0
    have sc := sc_power_left
    refine ⟨_, pss_cons (ps_par (i := 3) (j := 0) rfl sc.nd rfl rfl (by decide) rfl rfl (pa_cons (pe_int) (pa_cons (pe_op op_mod (pv 0) (pv 2)) (pa_nil))) (by rfl)) (pss_cons (ps_while PassesOwn.never (pt_cmpR op_gt (pv 1) (pe_int) (nomark _)) (pss_cons (ps_if (pt_cmpR op_eq (pe_op op_mod (pv 1) (pe_int)) (pe_int) (nomark _)) (pss_cons (ps_set (i := 3) sc.nd rfl (by first | exact Or.inl rfl | exact Or.inr rfl) (pe_op op_mod (pe_op op_mulX (pv 3) (pv 0)) (pv 2))) (pss_nil)) (pss_nil)) (pss_cons (ps_par (i := 0) (j := 1) rfl sc.nd rfl rfl (by decide) rfl rfl (pa_cons (pe_op op_mod (pe_op op_mulX (pv 0) (pv 0)) (pv 2)) (pa_cons (pe_op op_fdivW (pv 1) (pe_int)) (pa_nil))) (by rfl)) (pss_nil)))) (pss_cons (ps_ret (pv 3)) (pss_nil))), ?_⟩
    refine par_go ?_
    refine x_ev w0 p0 e_cI hm0 ?_
    intro found1 vfound9 S2 H3 s4 w5 p6 g8 rfound10 hm7
    cases (show vfound9 = .int found1 from rfound10)
    refine x_ev w5 p6 (e_mod (e_var (R := rI) rfl rfl) (e_var (R := rI) rfl rfl)) hm7 ?_
    intro base11 vbase19 S12 H13 s14 w15 p16 g18 rbase20 hm17
    cases (show vbase19 = .int base11 from rbase20)
    refine par_end [some (.int base11), some (.int p_often), some (.int p_number), some (.int found1)] rfl ?_
    refine q_wh (p := pt0) (fun st21 σ S' H' s' => σ = [some (.int st21.1), some (.int st21.2.1), some (.int p_number), some (.int st21.2.2)] ∧ Wd pt0 S0 H0 S' H' [] ∧ PotAt pt0 s' S' H' ∧ Ex S12 S') ⟨rfl, w15, p16, Ex.rf⟩ hm17 ?_ ?_ ?_ ?_
    · rintro st21 _ S27 H28 s29 ⟨rfl, w24, p25, eb26⟩
      exact ⟨p25, w24.i, (t_Test (e_gt (e_var (R := rI) rfl rfl) e_cI))⟩
    · rintro st21 _ S33 H34 s35 S36 H37 s38 ⟨rfl, w30, p31, eb32⟩ g39 p40
      exact ⟨rfl, w30.go g39, p40, eb32.tr g39.s⟩
    · rintro st21 _ S44 H45 s46 st21_ s2_ D_ ⟨rfl, w41, p42, eb43⟩ hm47 nx48
      refine q_ifj (p := pt0) (fun st52 σ S' H' s' => σ = [some (.int st21.1), some (.int st21.2.1), some (.int p_number), some (.int st52)] ∧ Wd pt0 S0 H0 S' H' [] ∧ PotAt pt0 s' S' H' ∧ Ex S44 S') w41 p42 (t_Test (e_eq (e_mod (e_var (R := rI) rfl rfl) e_cI) e_cI)) hm47 ?_ ?_ ?_
      · intro S53 H54 s55 st52_ s2_ D_ w56 p57 g58 hm59 nx60
        have eb43 := eb43.tr g58.s
        have eb61 := g58.s
        refine q_set (fun v => [some (.int st21.1), some (.int st21.2.1), some (.int p_number), some v]) (fun _ => rfl) w56 p57 (e_mod (e_mul (e_var (R := rI) rfl rfl) (e_var (R := rI) rfl rfl)) (e_var (R := rI) rfl rfl)) hm59 ?_
        intro found62 vfound70 S63 H64 s65 w66 p67 g69 rfound71 hm68
        cases (show vfound70 = .int found62 from rfound71)
        have eb43 := eb43.tr g69.s
        have eb61 := eb61.tr g69.s
        cases run_of_pure hm68
        exact nx60 _ _ _ ⟨rfl, w66, p67, eb61⟩
      · intro S72 H73 s74 st52_ s2_ D_ w75 p76 g77 hm78 nx79
        have eb43 := eb43.tr g77.s
        have eb80 := g77.s
        cases run_of_pure hm78
        exact nx79 _ _ _ ⟨rfl, w75, p76, eb80⟩
      · rintro st52 _ S84 H85 s86 ⟨rfl, w81, p82, eb83⟩ hm87
        have eb43 := eb43.tr eb83
        refine par_go ?_
        refine x_ev w81 p82 (e_mod (e_mul (e_var (R := rI) rfl rfl) (e_var (R := rI) rfl rfl)) (e_var (R := rI) rfl rfl)) hm87 ?_
        intro base88 vbase96 S89 H90 s91 w92 p93 g95 rbase97 hm94
        cases (show vbase96 = .int base88 from rbase97)
        have eb43 := eb43.tr g95.s
        refine x_ev w92 p93 (e_fdiv (e_var (R := rI) rfl rfl) e_cI) hm94 ?_
        intro often98 voften106 S99 H100 s101 w102 p103 g105 roften107 hm104
        cases (show voften106 = .int often98 from roften107)
        have eb43 := eb43.tr g105.s
        refine par_end [some (.int base88), some (.int often98), some (.int p_number), some (.int st52)] rfl ?_
        cases run_of_pure hm104
        exact (nx48 _ _ _ ⟨rfl, w102, p103, eb43⟩).1
    · rintro st21 _ S111 H112 s113 ⟨rfl, w108, p109, eb110⟩ hm114
      refine q_ret w108 p109 (e_var (R := rI) rfl rfl) hm114 ?_
      intro r122 v123 S115 H116 s117 w118 p119 g121 rr124 hm120
      cases run_of_pure hm120
      exact fin _ ⟨S115, w118.g, p119, rr124⟩
end
abbrev t_does_pass : Stmt := top 10
theorem sc_does_pass : FnScope ["number", "base", "often", "odd", "here", "step"] ["number", "base", "often", "odd"] (defScope t_does_pass) := ⟨rfl, rfl, rfl, by decide +kernel, rfl, by decide +kernel, by decide +kernel⟩
@[irreducible] noncomputable def m_does_pass (p_number : Int) (p_base : Int) (p_often : Int) (p_odd : Int) : Option Bool :=
Mir.lft (m_power_left p_base p_odd p_number) >>= fun r130 => bnd r130 fun here1 =>
Mir.lft (grd (List.length ([(1 : Int), (p_number - (1 : Int))] : List Int) ≤ 16000000)) >>= fun _ => if (List.contains ([(1 : Int), (p_number - (1 : Int))] : List Int) here1) = true then
(bnd true fun r25 => pure r25)
else
(Mir.lft (grd (RgB (p_often - (1 : Int)))) >>= fun _ => (lpC (ρ := Bool) (rng 0 (p_often - (1 : Int))) (fun (x37 : Int) (st35 : Int) =>
Mir.lft (grd (Sm st35 ∧ Sm st35)) >>= fun _ => Mir.lft (grd (0 < p_number)) >>= fun _ => bnd ((st35 * st35) % p_number) fun here76 =>
if (decide (here76 = (p_number - (1 : Int)))) = true then
(bnd true fun r100 => pure (Ctl.ret r100))
else
(pure (Ctl.go here76))) here1) >>= fun o => aft o (fun (st35 : Int) =>
bnd false fun r125 => pure r125) (fun r128 => pure r128))
noncomputable abbrev fm_does_pass : (Int × Int × Int × Int) → Option Bool := fun (a0, a1, a2, a3) => m_does_pass a0 a1 a2 a3
abbrev sp_does_pass (K : PySem.W.Frag) : Sp := spV F0 fm_does_pass (fun _ => (aCons rI (aCons rI (aCons rI (aOne rI))))) rB
section
variable {P : Program} {w : World} {K : PySem.W.Frag} {mg : Str → Option Value} {base : Heap}
theorem g_does_pass (T : Tx mg base) (D0 : Dk P w K mg base "power_left" "power_left" t_power_left 1 ["base", "often", "number"] (sp_power_left K)) {f : Addr} {fd : FuncData} (F : Fun K "does_pass" "does_pass" t_does_pass f fd) : FnG P w K mg base CX0 2 f fd ["number", "base", "often", "odd"] (sp_does_pass K) := by
  obtain ⟨f0, fd0, F0, m0, G0, b0⟩ := D0
  refine okG0 F sc_does_pass (fun vs H Q E h => ?_) (fun cdv A outer s0_ H0 vs Q E hr gd h => ?_)
  · obtain ⟨_, _, _, _, _, _, _, _, ⟨_, _, rfl, _, ⟨_, _, rfl, _, ⟨_, _, rfl, _, ⟨_, rfl, _⟩⟩⟩⟩, _⟩ := h
    rfl
  · obtain ⟨_, a, S0, s0, r, s', e0, p0, ⟨_, _, rfl, rfl, ⟨_, _, rfl, rfl, ⟨_, _, rfl, rfl, ⟨_, rfl, rfl⟩⟩⟩⟩, hm0, fin0⟩ := h
    obtain ⟨p_number, p_base, p_often, p_odd⟩ := a
    have fin : ∀ v {H' : Hp}, (∃ S', Gm (pt0).M S0 H0 S' H' ∧ PotAt pt0 s' S' H' ∧ rB r v S') → Q v H' := fun v {H'} ⟨S', h1, h2, h3⟩ => fin0 v S' H' h1 h2 h3
    have w0 : Wd pt0 S0 H0 S0 H0 [] := Wd.start e0
    have hm0 : Mir.run (m_does_pass p_number p_base p_often p_odd) s0 = some (r, s') := hm0
    unfold m_does_pass at hm0
    have sc := sc_does_pass
    refine ⟨_, pss_cons (ps_set (i := 4) sc.nd rfl (by first | exact Or.inl rfl | exact Or.inr rfl) (pe_cG G0 (hr.mono (by decide)) gd rfl m0 F0.kp b0 pass0 (pa_cons (pv 1) (pa_cons (pv 3) (pa_cons (pv 0) (pa_nil)))))) (pss_cons (ps_if (pt_cmpR (k_in K) (pv 4) (pe_tup (pa_cons (pe_int) (pa_cons (pe_op op_sub (pv 0) (pe_int)) (pa_nil)))) (by rfl)) (pss_cons (ps_ret (pe_bl)) (pss_nil)) (pss_nil)) (pss_cons (ps_for PassesOwn.never rfl (pi_range1 rfl T.n_range (pa_cons (pe_op op_sub (pv 2) (pe_int)) pa_nil)) (pg_name (i := 5) sc.nd rfl (by first | exact Or.inl rfl | exact Or.inr rfl)) (pss_cons (ps_set (i := 4) sc.nd rfl (by first | exact Or.inl rfl | exact Or.inr rfl) (pe_op op_mod (pe_op op_mulX (pv 4) (pv 4)) (pv 0))) (pss_cons (ps_if (pt_cmpR op_eq (pv 4) (pe_op op_sub (pv 0) (pe_int)) (nomark _)) (pss_cons (ps_ret (pe_bl)) (pss_nil)) (pss_nil)) (pss_nil)))) (pss_cons (ps_ret (pe_bl)) (pss_nil)))), ?_⟩
    refine q_set (fun v => [some (.int p_number), some (.int p_base), some (.int p_often), some (.int p_odd), some v, none]) (fun _ => rfl) w0 p0 (Ev.eta (e_call (E := E0) (fm := fm_power_left) (R := rI) (a_cons (e_var (R := rI) rfl rfl) (a_cons (e_var (R := rI) rfl rfl) (a_one (e_var (R := rI) rfl rfl)))))) hm0 ?_
    intro here1 vhere9 S2 H3 s4 w5 p6 g8 rhere10 hm7
    cases (show vhere9 = .int here1 from rhere10)
    refine q_if w5 p6 (t_Test (e_inT (neg := false) (e_var (R := rI) rfl rfl) (e_tupL (K := K) (a_consL e_cI (a_consL (e_sub (e_var (R := rI) rfl rfl) e_cI) (a_nilL (R := rI))))))) hm7 ?_ ?_
    · intro S11 H12 s13 w14 p15 g16 hm17
      refine q_ret w14 p15 e_cB hm17 ?_
      intro r25 v26 S18 H19 s20 w21 p22 g24 rr27 hm23
      cases run_of_pure hm23
      exact fin _ ⟨S18, w21.g, p22, rr27⟩
    · intro S28 H29 s30 w31 p32 g33 hm34
      refine nx_done ?_
      refine q_forC (p := pt0) (ρ := Bool) w31 p32 (i_R1 (e_sub (e_var (R := rI) rfl rfl) e_cI)) (g_nm (R := rI)) hm34 (fun Sb36 st35 σ S' H' s' => Ex Sb36 S' ∧ (∃ (xstep_ : Option V), σ = [some (.int p_number), some (.int p_base), some (.int p_often), some (.int p_odd), some (.int st35), xstep_] ∧ Wd pt0 S0 H0 S' H' [] ∧ PotAt pt0 s' S' H' ∧ Ex S28 S')) (fun r v H' s' => ∃ S', Gm (pt0).M S0 H0 S' H' ∧ PotAt pt0 s' S' H' ∧ rB r v S') ?_ ?_ ?_ ?_ ?_ ?_
      · intro S38 H39 s40 w41 p42 g43
        exact ⟨Ex.rf, ⟨_, rfl, w41, p42, g43.s⟩⟩
      · rintro Sb36 st35 _ S48 H49 s50 ⟨ex51, ⟨xstep44, rfl, w45, p46, eb47⟩⟩
        exact ⟨ex51, w45.i, p46, ownOk0⟩
      · rintro Sb36 st35 _ S56 H57 s58 S59 H60 ⟨ex62, ⟨xstep52, rfl, w53, p54, eb55⟩⟩ g61
        exact ⟨ex62.tr g61.s, _, rfl, w53.go (Gm.up g61), PotAt.go p54 g61, eb55.tr g61.s⟩
      · rintro Sb36 x37 st35 _ σ75 S67 H68 s69 st35_ s2_ D_ ⟨ex74, ⟨xstep63, rfl, w64, p65, eb66⟩⟩ hp hm70 nx71 bk72 rt73
        obtain ⟨_, rfl, rfl⟩ := hp
        refine q_set (fun v => [some (.int p_number), some (.int p_base), some (.int p_often), some (.int p_odd), some v, some (.int x37)]) (fun _ => rfl) w64 p65 (e_mod (e_mul (e_var (R := rI) rfl rfl) (e_var (R := rI) rfl rfl)) (e_var (R := rI) rfl rfl)) hm70 ?_
        intro here76 vhere84 S77 H78 s79 w80 p81 g83 rhere85 hm82
        cases (show vhere84 = .int here76 from rhere85)
        have eb66 := eb66.tr g83.s
        have ex74 := ex74.tr g83.s
        refine q_if w80 p81 (t_Test (e_eq (e_var (R := rI) rfl rfl) (e_sub (e_var (R := rI) rfl rfl) e_cI))) hm82 ?_ ?_
        · intro S86 H87 s88 w89 p90 g91 hm92
          have eb66 := eb66.tr g91.s
          have ex74 := ex74.tr g91.s
          refine q_ret w89 p90 e_cB hm92 ?_
          intro r100 v101 S93 H94 s95 w96 p97 g99 rr102 hm98
          cases run_of_pure hm98
          exact rt73 _ _ _ rfl ⟨S93, w96.g, p97, rr102⟩
        · intro S103 H104 s105 w106 p107 g108 hm109
          have eb66 := eb66.tr g108.s
          have ex74 := ex74.tr g108.s
          refine nx_done ?_
          cases run_of_pure hm109
          exact (nx71 _ _ _ _ rfl ⟨ex74, ⟨_, rfl, w106, p107, eb66⟩⟩).1
      · rintro Sb36 st35 _ S114 H115 s116 ⟨_, ⟨xstep110, rfl, w111, p112, eb113⟩⟩ hm117
        have hm117 := hm117.elim id id
        refine q_ret w111 p112 e_cB hm117 ?_
        intro r125 v126 S118 H119 s120 w121 p122 g124 rr127 hm123
        cases run_of_pure hm123
        exact fin _ ⟨S118, w121.g, p122, rr127⟩
      · intro r128 v129 H' s' hr1 hm1
        cases run_of_pure hm1
        exact fin _ hr1
end
abbrev t_is_prime_number : Stmt := top 8
theorem sc_is_prime_number : FnScope ["number", "small", "p", "often", "odd"] ["number"] (defScope t_is_prime_number) := ⟨rfl, rfl, rfl, by decide +kernel, rfl, by decide +kernel, by decide +kernel⟩
@[irreducible] noncomputable def m_is_prime_number (p_number : Int) : Option Bool :=
if (decide (p_number < (2 : Int))) = true then
(bnd false fun r15 => pure r15)
else
(Mir.lft (grd (List.length ([(2 : Int), (3 : Int), (5 : Int), (7 : Int), (11 : Int), (13 : Int), (17 : Int), (19 : Int), (23 : Int), (29 : Int), (31 : Int), (37 : Int)] : List Int) ≤ 16000000)) >>= fun _ => bnd ([(2 : Int), (3 : Int), (5 : Int), (7 : Int), (11 : Int), (13 : Int), (17 : Int), (19 : Int), (23 : Int), (29 : Int), (31 : Int), (37 : Int)] : List Int) fun small25 =>
(lpC (ρ := Bool) small25 (fun (x37 : Int) (st35 : Unit) =>
Mir.lft (grd (0 < x37)) >>= fun _ => if (decide ((p_number % x37) = (0 : Int))) = true then
(bnd (decide (p_number = x37)) fun r90 => pure (Ctl.ret r90))
else
(pure (Ctl.go ()))) ()) >>= fun o => aft o (fun (st35 : Unit) =>
Mir.lft (m_taken_out (p_number - (1 : Int)) (2 : Int)) >>= fun r133 => bnd r133 fun t108 =>
Mir.lft (grd (List.length small25 ≤ 16000000)) >>= fun _ => cmp small25 (fun x117 => Mir.lft (m_does_pass p_number x117 t108.1 t108.2) >>= fun r121 => pure (some r121)) >>= fun l132 => bnd (List.all l132 id) fun r129 => pure r129) (fun r134 => pure r134))
noncomputable abbrev fm_is_prime_number : (Int) → Option Bool := fun a => m_is_prime_number a
abbrev sp_is_prime_number (K : PySem.W.Frag) : Sp := spV F0 fm_is_prime_number (fun _ => (aOne rI)) rB
section
variable {P : Program} {w : World} {K : PySem.W.Frag} {mg : Str → Option Value} {base : Heap}
theorem g_is_prime_number (T : Tx mg base) (D0 : Dk P w K mg base "taken_out" "taken_out" t_taken_out 1 ["number", "p"] (sp_taken_out K)) (D1 : Dk P w K mg base "does_pass" "does_pass" t_does_pass 2 ["number", "base", "often", "odd"] (sp_does_pass K)) {f : Addr} {fd : FuncData} (F : Fun K "is_prime_number" "is_prime_number" t_is_prime_number f fd) : FnG P w K mg base CX0 3 f fd ["number"] (sp_is_prime_number K) := by
  obtain ⟨f0, fd0, F0, m0, G0, b0⟩ := D0
  obtain ⟨f1, fd1, F1, m1, G1, b1⟩ := D1
  refine okG0 F sc_is_prime_number (fun vs H Q E h => ?_) (fun cdv A outer s0_ H0 vs Q E hr gd h => ?_)
  · obtain ⟨_, _, _, _, _, _, _, _, ⟨_, rfl, _⟩, _⟩ := h
    rfl
  · obtain ⟨_, p_number, S0, s0, r, s', e0, p0, ⟨_, rfl, rfl⟩, hm0, fin0⟩ := h
    have fin : ∀ v {H' : Hp}, (∃ S', Gm (pt0).M S0 H0 S' H' ∧ PotAt pt0 s' S' H' ∧ rB r v S') → Q v H' := fun v {H'} ⟨S', h1, h2, h3⟩ => fin0 v S' H' h1 h2 h3
    have w0 : Wd pt0 S0 H0 S0 H0 [] := Wd.start e0
    have hm0 : Mir.run (m_is_prime_number p_number) s0 = some (r, s') := hm0
    unfold m_is_prime_number at hm0
    have sc := sc_is_prime_number
    refine ⟨_, pss_cons (ps_if (pt_cmpR op_lt (pv 0) (pe_int) (nomark _)) (pss_cons (ps_ret (pe_bl)) (pss_nil)) (pss_nil)) (pss_cons (ps_set (i := 1) sc.nd rfl (by first | exact Or.inl rfl | exact Or.inr rfl) (pe_tup (pa_cons (pe_int) (pa_cons (pe_int) (pa_cons (pe_int) (pa_cons (pe_int) (pa_cons (pe_int) (pa_cons (pe_int) (pa_cons (pe_int) (pa_cons (pe_int) (pa_cons (pe_int) (pa_cons (pe_int) (pa_cons (pe_int) (pa_cons (pe_int) (pa_nil))))))))))))))) (pss_cons (ps_for PassesOwn.never rfl (k_pit K (pv 1)) (pg_name (i := 2) sc.nd rfl (by first | exact Or.inl rfl | exact Or.inr rfl)) (pss_cons (ps_if (pt_cmpR op_eq (pe_op op_mod (pv 0) (pv 2)) (pe_int) (nomark _)) (pss_cons (ps_ret (pe_cmpR op_eq (pv 0) (pv 2) (nomark _))) (pss_nil)) (pss_nil)) (pss_nil))) (pss_cons (ps_asg (pe_cG G0 (hr.mono (by decide)) gd rfl m0 F0.kp b0 pass0 (pa_cons (pe_op op_sub (pv 0) (pe_int)) (pa_cons (pe_int) (pa_nil)))) (k_gt K (pgs_cons (pg_name (i := 3) sc.nd rfl (by first | exact Or.inl rfl | exact Or.inr rfl)) (pgs_cons (pg_name (i := 4) sc.nd rfl (by first | exact Or.inl rfl | exact Or.inr rfl)) (pgs_nil))))) (pss_cons (ps_ret (pe_callB (k_all K) (by rfl) T.n_all (by decide +kernel) (pa_cons (pe_lc (own := [("p", 2)]) (g := (gName 2)) (tt := tYes) rfl sc.nd (k_pit K (pv 1)) (blkOk_by (N := ["number", "small", "p", "often", "odd"]) (sc := defScope t_is_prime_number) (by decide +kernel)) (fun _ _ _ _ _ => pg_name (i := 2) sc.nd rfl (by first | exact Or.inl rfl | exact Or.inr rfl)) (fun _ _ _ _ _ => pts_nil) (fun _ _ _ _ _ => pe_cG G1 (hr.mono (by decide)) gd rfl m1 F1.kp b1 pass0 (pa_cons (pv 0) (pa_cons (pv 2) (pa_cons (pv 3) (pa_cons (pv 4) (pa_nil))))))) pa_nil))) (pss_nil))))), ?_⟩
    refine q_if w0 p0 (t_Test (e_lt (e_var (R := rI) rfl rfl) e_cI)) hm0 ?_ ?_
    · intro S1 H2 s3 w4 p5 g6 hm7
      refine q_ret w4 p5 e_cB hm7 ?_
      intro r15 v16 S8 H9 s10 w11 p12 g14 rr17 hm13
      cases run_of_pure hm13
      exact fin _ ⟨S8, w11.g, p12, rr17⟩
    · intro S18 H19 s20 w21 p22 g23 hm24
      refine nx_done ?_
      refine q_set (fun v => [some (.int p_number), some v, none, none, none]) (fun _ => rfl) w21 p22 (e_tupL (K := K) (a_consL e_cI (a_consL e_cI (a_consL e_cI (a_consL e_cI (a_consL e_cI (a_consL e_cI (a_consL e_cI (a_consL e_cI (a_consL e_cI (a_consL e_cI (a_consL e_cI (a_consL e_cI (a_nilL (R := rI))))))))))))))) hm24 ?_
      intro small25 vsmall33 S26 H27 s28 w29 p30 g32 rsmall34 hm31
      refine q_forC (p := pt0) (ρ := Bool) w29 p30 (i_T (e_var rfl rsmall34)) (g_nm (R := rI)) hm31 (fun Sb36 st35 σ S' H' s' => Ex Sb36 S' ∧ (∃ (xp_ : Option V), σ = [some (.int p_number), some vsmall33, xp_, none, none] ∧ Wd pt0 S0 H0 S' H' [] ∧ PotAt pt0 s' S' H' ∧ Ex S26 S')) (fun r v H' s' => ∃ S', Gm (pt0).M S0 H0 S' H' ∧ PotAt pt0 s' S' H' ∧ rB r v S') ?_ ?_ ?_ ?_ ?_ ?_
      · intro S38 H39 s40 w41 p42 g43
        have rsmall34 := Mo.mo g43.s rsmall34
        exact ⟨Ex.rf, ⟨_, rfl, w41, p42, g43.s⟩⟩
      · rintro Sb36 st35 _ S48 H49 s50 ⟨ex51, ⟨xp44, rfl, w45, p46, eb47⟩⟩
        exact ⟨ex51, w45.i, p46, ownOk0⟩
      · rintro Sb36 st35 _ S56 H57 s58 S59 H60 ⟨ex62, ⟨xp52, rfl, w53, p54, eb55⟩⟩ g61
        exact ⟨ex62.tr g61.s, _, rfl, w53.go (Gm.up g61), PotAt.go p54 g61, eb55.tr g61.s⟩
      · rintro Sb36 x37 st35 _ σ75 S67 H68 s69 st35_ s2_ D_ ⟨ex74, ⟨xp63, rfl, w64, p65, eb66⟩⟩ hp hm70 nx71 bk72 rt73
        obtain ⟨_, rfl, rfl⟩ := hp
        have rsmall34 := Mo.mo eb66 rsmall34
        refine q_if w64 p65 (t_Test (e_eq (e_mod (e_var (R := rI) rfl rfl) (e_var (R := rI) rfl rfl)) e_cI)) hm70 ?_ ?_
        · intro S76 H77 s78 w79 p80 g81 hm82
          have rsmall34 := Mo.mo g81.s rsmall34
          have eb66 := eb66.tr g81.s
          have ex74 := ex74.tr g81.s
          refine q_ret w79 p80 (e_eq (e_var (R := rI) rfl rfl) (e_var (R := rI) rfl rfl)) hm82 ?_
          intro r90 v91 S83 H84 s85 w86 p87 g89 rr92 hm88
          cases run_of_pure hm88
          exact rt73 _ _ _ rfl ⟨S83, w86.g, p87, rr92⟩
        · intro S93 H94 s95 w96 p97 g98 hm99
          have rsmall34 := Mo.mo g98.s rsmall34
          have eb66 := eb66.tr g98.s
          have ex74 := ex74.tr g98.s
          refine nx_done ?_
          cases run_of_pure hm99
          exact (nx71 _ _ _ _ rfl ⟨ex74, ⟨_, rfl, w96, p97, eb66⟩⟩).1
      · rintro Sb36 st35 _ S104 H105 s106 ⟨_, ⟨xp100, rfl, w101, p102, eb103⟩⟩ hm107
        have hm107 := hm107.elim id id
        have rsmall34 := Mo.mo eb103 rsmall34
        refine q_unp w101 p102 (Ev.eta (e_call (E := E0) (fm := fm_taken_out) (R := (rT K (aCons rI (aOne rI)))) (a_cons (e_sub (e_var (R := rI) rfl rfl) e_cI) (a_one e_cI)))) (g_tp (gq_cons (g_nm (R := rI)) (gq_one (g_nm (R := rI))))) hm107 ?_
        intro t108 σ116 S109 H110 s111 w112 p113 g115 hp hm114
        have rsmall34 := Mo.mo g115.s rsmall34
        obtain ⟨_, ⟨_, rfl, rfl⟩, ⟨_, rfl, rfl⟩⟩ := hp
        refine q_ret w112 p113 (c_all (EvL.rd (l_lc1 (γ := Bool) (vs := [2]) (me := fun x117 k => Mir.lft (m_does_pass p_number x117 t108.1 t108.2) >>= fun r120 => k r120) (R' := rB) (i_T (e_var rfl rsmall34)) ownOk0 (g_nm (R := rI)) (fun x σ' S hp => by obtain ⟨_, rfl, _⟩ := hp; rfl) (fun x117 σ' S1 H1 g118 hp => by have w119 := w112.go g118; obtain ⟨_, rfl, rfl⟩ := hp; have rsmall34 := Mo.mo g118.s rsmall34; exact (Ev.eta (e_call (E := E0) (fm := fm_does_pass) (R := rB) (a_cons (e_var (R := rI) rfl rfl) (a_cons (e_var (R := rI) rfl rfl) (a_cons (e_var (R := rI) rfl rfl) (a_one (e_var (R := rI) rfl rfl)))))))) pm_nm))) hm114 ?_
        intro r129 v130 S122 H123 s124 w125 p126 g128 rr131 hm127
        cases run_of_pure hm127
        exact fin _ ⟨S122, w125.g, p126, rr131⟩
      · intro r134 v135 H' s' hr1 hm1
        cases run_of_pure hm1
        exact fin _ hr1
end
abbrev t_primes_of : Stmt := top 11
theorem sc_primes_of : FnScope ["number", "found", "p", "often"] ["number"] (defScope t_primes_of) := ⟨rfl, rfl, rfl, by decide +kernel, rfl, by decide +kernel, by decide +kernel⟩
@[irreducible] noncomputable def m_primes_of (p_number : Int) : Option (List (Int × Int)) :=
Mir.lft (grd (List.length ([] : List (Int × Int)) ≤ 16000000)) >>= fun _ => bnd ([] : List (Int × Int)) fun found1 =>
bnd (2 : Int) fun p12 =>
(whC many (fun (st22 : Int × (List (Int × Int)) × Int) k => Mir.lft (grd (Sm st22.2.2 ∧ Sm st22.2.2)) >>= fun _ => k (decide ((st22.2.2 * st22.2.2) ≤ st22.1))) (fun (st22 : Int × (List (Int × Int)) × Int) =>
Mir.lft (grd (0 < st22.2.2)) >>= fun _ => if (decide ((st22.1 % st22.2.2) = (0 : Int))) = true then
(Mir.lft (m_taken_out st22.1 st22.2.2) >>= fun r134 => bnd r134 fun t72 =>
Mir.lft (grd (List.length st22.2.1 < 16000000)) >>= fun _ => bnd (st22.2.1 ++ [(st22.2.2, t72.1)]) fun found81 =>
Mir.lft (m_is_prime_number t72.2) >>= fun r133 => if r133 = true then
(pure (Ctl.brk (t72.2, found81, st22.2.2)))
else
((if (decide (st22.2.2 = (1009 : Int))) = true then Mir.lft (m_is_prime_number t72.2) >>= fun r132 => pure r132 else pure false) >>= fun b131 => if b131 = true then
(pure (Ctl.brk (t72.2, found81, st22.2.2)))
else
((if (decide (st22.2.2 = (2 : Int))) = true then pure (1 : Int) else (if (decide (st22.2.2 = (3 : Int))) = true then pure true else Mir.lft (grd (0 < (6 : Int))) >>= fun _ => pure (decide ((st22.2.2 % (6 : Int)) = (5 : Int)))) >>= fun b130 => pure (if b130 = true then (2 : Int) else (4 : Int))) >>= fun c129 => bnd (st22.2.2 + c129) fun p119 =>
pure (Ctl.go (t72.2, found81, p119)))))
else
((if (decide (st22.2.2 = (1009 : Int))) = true then Mir.lft (m_is_prime_number st22.1) >>= fun r169 => pure r169 else pure false) >>= fun b168 => if b168 = true then
(pure (Ctl.brk (st22.1, st22.2.1, st22.2.2)))
else
((if (decide (st22.2.2 = (2 : Int))) = true then pure (1 : Int) else (if (decide (st22.2.2 = (3 : Int))) = true then pure true else Mir.lft (grd (0 < (6 : Int))) >>= fun _ => pure (decide ((st22.2.2 % (6 : Int)) = (5 : Int)))) >>= fun b167 => pure (if b167 = true then (2 : Int) else (4 : Int))) >>= fun c166 => bnd (st22.2.2 + c166) fun p156 =>
pure (Ctl.go (st22.1, st22.2.1, p156))))) (p_number, found1, p12)) >>= fun o => aft o (fun (st22 : Int × (List (Int × Int)) × Int) =>
(if (decide ((1 : Int) < st22.1)) = true then Mir.lft (grd (List.length ([(st22.1, (1 : Int))] : List (Int × Int)) ≤ 16000000)) >>= fun _ => pure ([(st22.1, (1 : Int))] : List (Int × Int)) else Mir.lft (grd (List.length ([] : List (Int × Int)) ≤ 16000000)) >>= fun _ => pure ([] : List (Int × Int))) >>= fun c191 => Mir.lft (grd (List.length st22.2.1 + List.length c191 ≤ 16000000)) >>= fun _ => bnd (st22.2.1 ++ c191) fun r188 => pure r188) (fun r192 => Empty.elim r192)
noncomputable abbrev fm_primes_of : (Int) → Option (List (Int × Int)) := fun a => m_primes_of a
abbrev sp_primes_of (K : PySem.W.Frag) : Sp := spV F0 fm_primes_of (fun _ => (aOne rI)) (rT K (aAll (rT K (aCons rI (aOne rI)))))
section
variable {P : Program} {w : World} {K : PySem.W.Frag} {mg : Str → Option Value} {base : Heap}
theorem g_primes_of (T : Tx mg base) (D0 : Dk P w K mg base "taken_out" "taken_out" t_taken_out 1 ["number", "p"] (sp_taken_out K)) (D1 : Dk P w K mg base "is_prime_number" "is_prime_number" t_is_prime_number 3 ["number"] (sp_is_prime_number K)) {f : Addr} {fd : FuncData} (F : Fun K "primes_of" "primes_of" t_primes_of f fd) : FnG P w K mg base CX0 4 f fd ["number"] (sp_primes_of K) := by
  obtain ⟨f0, fd0, F0, m0, G0, b0⟩ := D0
  obtain ⟨f1, fd1, F1, m1, G1, b1⟩ := D1
  refine okG0 F sc_primes_of (fun vs H Q E h => ?_) (fun cdv A outer s0_ H0 vs Q E hr gd h => ?_)
  · obtain ⟨_, _, _, _, _, _, _, _, ⟨_, rfl, _⟩, _⟩ := h
    rfl
  · obtain ⟨_, p_number, S0, s0, r, s', e0, p0, ⟨_, rfl, rfl⟩, hm0, fin0⟩ := h
    have fin : ∀ v {H' : Hp}, (∃ S', Gm (pt0).M S0 H0 S' H' ∧ PotAt pt0 s' S' H' ∧ (rT K (aAll (rT K (aCons rI (aOne rI))))) r v S') → Q v H' := fun v {H'} ⟨S', h1, h2, h3⟩ => fin0 v S' H' h1 h2 h3
    have w0 : Wd pt0 S0 H0 S0 H0 [] := Wd.start e0
    have hm0 : Mir.run (m_primes_of p_number) s0 = some (r, s') := hm0
    unfold m_primes_of at hm0
    have sc := sc_primes_of
    refine ⟨_, pss_cons (ps_par (i := 1) (j := 2) rfl sc.nd rfl rfl (by decide) rfl rfl (pa_cons (pe_lst (pa_nil)) (pa_cons (pe_int) (pa_nil))) (by rfl)) (pss_cons (ps_while PassesOwn.never (pt_cmpR op_le (pe_op op_mulX (pv 2) (pv 2)) (pv 0) (nomark _)) (pss_cons (ps_if (pt_cmpR op_eq (pe_op op_mod (pv 0) (pv 2)) (pe_int) (nomark _)) (pss_cons (ps_asg (pe_cG G0 (hr.mono (by decide)) gd rfl m0 F0.kp b0 pass0 (pa_cons (pv 0) (pa_cons (pv 2) (pa_nil)))) (k_gt K (pgs_cons (pg_name (i := 3) sc.nd rfl (by first | exact Or.inl rfl | exact Or.inr rfl)) (pgs_cons (pg_name (i := 0) sc.nd rfl (by first | exact Or.inl rfl | exact Or.inr rfl)) (pgs_nil))))) (pss_cons (ps_expr (pe_bm PySem.F.plainAttrs_list PySem.F.slot_list_append PySem.F.type_list_append mt_append (pv 1) (pa_cons (pe_tup (pa_cons (pv 2) (pa_cons (pv 3) (pa_nil)))) pa_nil))) (pss_cons (ps_if (pt_val (pe_cG G1 (hr.mono (by decide)) gd rfl m1 F1.kp b1 pass0 (pa_cons (pv 0) (pa_nil)))) (pss_cons (ps_break) (pss_nil)) (pss_nil)) (pss_nil)))) (pss_nil)) (pss_cons (ps_if (PW.pt (pw_and (pt_cmpR op_eq (pv 2) (pe_int) (nomark _)) (pw_and1 (pt_val (pe_cG G1 (hr.mono (by decide)) gd rfl m1 F1.kp b1 pass0 (pa_cons (pv 0) (pa_nil))))))) (pss_cons (ps_break) (pss_nil)) (pss_nil)) (pss_cons (ps_set (i := 2) sc.nd rfl (by first | exact Or.inl rfl | exact Or.inr rfl) (pe_op op_add (pv 2) (pe_ifExp (pt_cmpR op_eq (pv 2) (pe_int) (nomark _)) (pe_int) (pe_ifExp (PW.pt (pw_or (pt_cmpR op_eq (pv 2) (pe_int) (nomark _)) (pw_or1 (pt_cmpR op_eq (pe_op op_mod (pv 2) (pe_int)) (pe_int) (nomark _))))) (pe_int) (pe_int))))) (pss_nil))))) (pss_cons (ps_ret (pe_callTy (k_tupOf K) (by rfl) T.n_tuple (by decide +kernel) (pa_cons (pe_op op_cat (pv 1) (pe_ifExp (pt_cmpR op_gt (pv 0) (pe_int) (nomark _)) (pe_lst (pa_cons (pe_tup (pa_cons (pv 0) (pa_cons (pe_int) (pa_nil)))) (pa_nil))) (pe_lst (pa_nil)))) pa_nil))) (pss_nil))), ?_⟩
    refine par_go ?_
    refine x_evL w0 p0 (l_lstL (a_nilL (R := (rT K (aCons rI (aOne rI)))))) hm0 ?_
    intro found1 q9 vs10 S2 H3 s4 w5 p6 g8 rfound11 hm7
    have rfound11 : All (rT K (aCons rI (aOne rI))) _ _ _ := rfound11
    refine x_ev w5 p6 e_cI hm7 ?_
    intro p12 vp20 S13 H14 s15 w16 p17 g19 rp21 hm18
    cases (show vp20 = .int p12 from rp21)
    have rfound11 := All.mo g19.s rfound11
    refine par_end [some (.int p_number), some (.ref q9), some (.int p12), none] rfl ?_
    refine q_whC (p := pt0) (ρ := Empty) (fun st22 σ S' H' s' => ∃ (qfound_ : Addr) (usfound_ : List V) (xoften_ : Option V), σ = [some (.int st22.1), some (.ref qfound_), some (.int st22.2.2), xoften_] ∧ Wd pt0 S0 H0 S' H' [(qfound_, .lst usfound_)] ∧ PotAt pt0 s' S' H' ∧ Ex S13 S' ∧ All (rT K (aCons rI (aOne rI))) S' st22.2.1 usfound_) (fun _ _ _ _ => False) ⟨_, _, _, rfl, w16, p17, Ex.rf, rfound11⟩ hm18 ?_ ?_ ?_ ?_ ?_
    · rintro st22 _ S32 H33 s34 ⟨qfound25, usfound26, xoften27, rfl, w29, p30, eb31, rfound28⟩
      exact ⟨p30, w29.i, (t_Test (e_le (e_mul (e_var (R := rI) rfl rfl) (e_var (R := rI) rfl rfl)) (e_var (R := rI) rfl rfl)))⟩
    · rintro st22 _ S42 H43 s44 S45 H46 s47 ⟨qfound35, usfound36, xoften37, rfl, w39, p40, eb41, rfound38⟩ g48 p49
      exact ⟨_, _, _, rfl, w39.go g48, p49, eb41.tr g48.s, All.mo g48.s rfound38⟩
    · rintro st22 _ S57 H58 s59 st22_ s2_ D_ ⟨qfound50, usfound51, xoften52, rfl, w54, p55, eb56, rfound53⟩ hm60 nx61 bk62 rt63
      refine q_if w54 p55 (t_Test (e_eq (e_mod (e_var (R := rI) rfl rfl) (e_var (R := rI) rfl rfl)) e_cI)) hm60 ?_ ?_
      · intro S65 H66 s67 w68 p69 g70 hm71
        have rfound53 := All.mo g70.s rfound53
        have eb56 := eb56.tr g70.s
        refine q_unp w68 p69 (Ev.eta (e_call (E := E0) (fm := fm_taken_out) (R := (rT K (aCons rI (aOne rI)))) (a_cons (e_var (R := rI) rfl rfl) (a_one (e_var (R := rI) rfl rfl))))) (g_tp (gq_cons (g_nm (R := rI)) (gq_one (g_nm (R := rI))))) hm71 ?_
        intro t72 σ80 S73 H74 s75 w76 p77 g79 hp hm78
        have rfound53 := All.mo g79.s rfound53
        have eb56 := eb56.tr g79.s
        obtain ⟨_, ⟨_, rfl, rfl⟩, ⟨_, rfl, rfl⟩⟩ := hp
        refine q_app (j := 0) w76 p77 rfl rfl rfound53 (e_tup (K := K) (a_cons (e_var (R := rI) rfl rfl) (a_one (e_var (R := rI) rfl rfl))) (arN_cons arN_one) (by decide)) hm78 ?_
        intro found81 vs82 S84 H85 s86 w87 p88 e90 rfound83 hm89
        have eb56 := eb56.tr e90
        refine q_if w87 p88 (t_B (Ev.eta (e_call (E := E0) (fm := fm_is_prime_number) (R := rB) (a_one (e_var (R := rI) rfl rfl))))) hm89 ?_ ?_
        · intro S91 H92 s93 w94 p95 g96 hm97
          have rfound83 := All.mo g96.s rfound83
          have eb56 := eb56.tr g96.s
          cases run_of_pure hm97
          exact bk62 _ _ _ _ rfl ⟨_, _, _, rfl, w94, p95, eb56, rfound83⟩
        · intro S98 H99 s100 w101 p102 g103 hm104
          have rfound83 := All.mo g103.s rfound83
          have eb56 := eb56.tr g103.s
          refine nx_done ?_
          refine nx_done ?_
          refine q_if w101 p102 (t_and (t_Test (e_eq (e_var (R := rI) rfl rfl) e_cI)) (t_B (Ev.eta (e_call (E := E0) (fm := fm_is_prime_number) (R := rB) (a_one (e_var (R := rI) rfl rfl)))))) hm104 ?_ ?_
          · intro S105 H106 s107 w108 p109 g110 hm111
            have rfound83 := All.mo g110.s rfound83
            have eb56 := eb56.tr g110.s
            cases run_of_pure hm111
            exact bk62 _ _ _ _ rfl ⟨_, _, _, rfl, w108, p109, eb56, rfound83⟩
          · intro S112 H113 s114 w115 p116 g117 hm118
            have rfound83 := All.mo g117.s rfound83
            have eb56 := eb56.tr g117.s
            refine nx_done ?_
            refine q_set (fun v => [some (.int t72.2), some (.ref qfound50), some v, some (.int t72.1)]) (fun _ => rfl) w115 p116 (e_add (e_var (R := rI) rfl rfl) (e_if (R := rI) (t_Test (e_eq (e_var (R := rI) rfl rfl) e_cI)) e_cI (e_ifT (R := rI) (t_or (t_Test (e_eq (e_var (R := rI) rfl rfl) e_cI)) (t_Test (e_eq (e_mod (e_var (R := rI) rfl rfl) e_cI) e_cI))) e_cI e_cI))) hm118 ?_
            intro p119 vp127 S120 H121 s122 w123 p124 g126 rp128 hm125
            cases (show vp127 = .int p119 from rp128)
            have rfound83 := All.mo g126.s rfound83
            have eb56 := eb56.tr g126.s
            cases run_of_pure hm125
            exact (nx61 _ _ _ _ rfl ⟨_, _, _, rfl, w123, p124, eb56, rfound83⟩).1
      · intro S135 H136 s137 w138 p139 g140 hm141
        have rfound53 := All.mo g140.s rfound53
        have eb56 := eb56.tr g140.s
        refine nx_done ?_
        refine q_if w138 p139 (t_and (t_Test (e_eq (e_var (R := rI) rfl rfl) e_cI)) (t_B (Ev.eta (e_call (E := E0) (fm := fm_is_prime_number) (R := rB) (a_one (e_var (R := rI) rfl rfl)))))) hm141 ?_ ?_
        · intro S142 H143 s144 w145 p146 g147 hm148
          have rfound53 := All.mo g147.s rfound53
          have eb56 := eb56.tr g147.s
          cases run_of_pure hm148
          exact bk62 _ _ _ _ rfl ⟨_, _, _, rfl, w145, p146, eb56, rfound53⟩
        · intro S149 H150 s151 w152 p153 g154 hm155
          have rfound53 := All.mo g154.s rfound53
          have eb56 := eb56.tr g154.s
          refine nx_done ?_
          refine q_set (fun v => [some (.int st22.1), some (.ref qfound50), some v, xoften52]) (fun _ => rfl) w152 p153 (e_add (e_var (R := rI) rfl rfl) (e_if (R := rI) (t_Test (e_eq (e_var (R := rI) rfl rfl) e_cI)) e_cI (e_ifT (R := rI) (t_or (t_Test (e_eq (e_var (R := rI) rfl rfl) e_cI)) (t_Test (e_eq (e_mod (e_var (R := rI) rfl rfl) e_cI) e_cI))) e_cI e_cI))) hm155 ?_
          intro p156 vp164 S157 H158 s159 w160 p161 g163 rp165 hm162
          cases (show vp164 = .int p156 from rp165)
          have rfound53 := All.mo g163.s rfound53
          have eb56 := eb56.tr g163.s
          cases run_of_pure hm162
          exact (nx61 _ _ _ _ rfl ⟨_, _, _, rfl, w160, p161, eb56, rfound53⟩).1
    · rintro st22 _ S177 H178 s179 ⟨qfound170, usfound171, xoften172, rfl, w174, p175, eb176, rfound173⟩ hm180
      have hm180 := hm180.elim id id
      refine q_ret w174 p175 (c_tup (K := K) (EvL.rd (l_cat (w_own (A := (aAll (rT K (aCons rI (aOne rI))))) (j := 0) w174 rfl rfl rfound173) (EvL.rd (l_if (α := (List (Int × Int))) (t_Test (e_gt (e_var (R := rI) rfl rfl) e_cI)) (l_lstL (a_consL (e_tup (K := K) (a_cons (e_var (R := rI) rfl rfl) (a_one e_cI)) (arN_cons arN_one) (by decide)) (a_nilL (R := (rT K (aCons rI (aOne rI))))))) (l_lstL (a_nilL (R := (rT K (aCons rI (aOne rI))))))))))) hm180 ?_
      intro r188 v189 S181 H182 s183 w184 p185 g187 rr190 hm186
      cases run_of_pure hm186
      exact fin _ ⟨S181, w184.g, p185, rr190⟩
    · intro r192 v193 H' s' hr1
      exact hr1.elim
end
abbrev t_power_of : Stmt := top 13
theorem sc_power_of : FnScope ["base", "often", "found", "step"] ["base", "often"] (defScope t_power_of) := ⟨rfl, rfl, rfl, by decide +kernel, rfl, by decide +kernel, by decide +kernel⟩
@[irreducible] noncomputable def m_power_of (p_base : Int) (p_often : Int) : Option Int :=
bnd (1 : Int) fun found1 =>
Mir.lft (grd (RgB p_often)) >>= fun _ => (lpS (rng 0 p_often) (fun (x13 : Int) (st11 : Int) =>
Mir.lft (grd (Sm st11 ∧ Sm p_base)) >>= fun _ => bnd (st11 * p_base) fun found52 =>
pure found52) found1) >>= fun (st11 : Int) =>
bnd st11 fun r77 => pure r77
noncomputable abbrev fm_power_of : (Int × Int) → Option Int := fun (a0, a1) => m_power_of a0 a1
abbrev sp_power_of (K : PySem.W.Frag) : Sp := spV F0 fm_power_of (fun _ => (aCons rI (aOne rI))) rI
section
variable {P : Program} {w : World} {K : PySem.W.Frag} {mg : Str → Option Value} {base : Heap}
theorem g_power_of (T : Tx mg base)  {f : Addr} {fd : FuncData} (F : Fun K "power_of" "power_of" t_power_of f fd) : FnG P w K mg base CX0 1 f fd ["base", "often"] (sp_power_of K) := by
  refine okG0 F sc_power_of (fun vs H Q E h => ?_) (fun cdv A outer s0_ H0 vs Q E hr gd h => ?_)
  · obtain ⟨_, _, _, _, _, _, _, _, ⟨_, _, rfl, _, ⟨_, rfl, _⟩⟩, _⟩ := h
    rfl
  · obtain ⟨_, a, S0, s0, r, s', e0, p0, ⟨_, _, rfl, rfl, ⟨_, rfl, rfl⟩⟩, hm0, fin0⟩ := h
    obtain ⟨p_base, p_often⟩ := a
    have fin : ∀ v {H' : Hp}, (∃ S', Gm (pt0).M S0 H0 S' H' ∧ PotAt pt0 s' S' H' ∧ rI r v S') → Q v H' := fun v {H'} ⟨S', h1, h2, h3⟩ => fin0 v S' H' h1 h2 h3
    have w0 : Wd pt0 S0 H0 S0 H0 [] := Wd.start e0
    have hm0 : Mir.run (m_power_of p_base p_often) s0 = some (r, s') := hm0
    unfold m_power_of at hm0
    have sc := sc_power_of
    refine ⟨_, pss_cons (ps_set (i := 2) sc.nd rfl (by first | exact Or.inl rfl | exact Or.inr rfl) (pe_int)) (pss_cons (ps_for PassesOwn.never rfl (pi_range1 rfl T.n_range (pa_cons (pv 1) pa_nil)) (pg_name (i := 3) sc.nd rfl (by first | exact Or.inl rfl | exact Or.inr rfl)) (pss_cons (ps_set (i := 2) sc.nd rfl (by first | exact Or.inl rfl | exact Or.inr rfl) (pe_op op_mulX (pv 2) (pv 0))) (pss_nil))) (pss_cons (ps_ret (pv 2)) (pss_nil))), ?_⟩
    refine q_set (fun v => [some (.int p_base), some (.int p_often), some v, none]) (fun _ => rfl) w0 p0 e_cI hm0 ?_
    intro found1 vfound9 S2 H3 s4 w5 p6 g8 rfound10 hm7
    cases (show vfound9 = .int found1 from rfound10)
    refine q_for (p := pt0) w5 p6 (i_R1 (e_var (R := rI) rfl rfl)) (g_nm (R := rI)) hm7 (fun Sb12 st11 σ S' H' s' => Ex Sb12 S' ∧ (∃ (xstep_ : Option V), σ = [some (.int p_base), some (.int p_often), some (.int st11), xstep_] ∧ Wd pt0 S0 H0 S' H' [] ∧ PotAt pt0 s' S' H' ∧ Ex S2 S')) ?_ ?_ ?_ ?_ ?_
    · intro S14 H15 s16 w17 p18 g19
      exact ⟨Ex.rf, ⟨_, rfl, w17, p18, g19.s⟩⟩
    · rintro Sb12 st11 _ S24 H25 s26 ⟨ex27, ⟨xstep20, rfl, w21, p22, eb23⟩⟩
      exact ⟨ex27, w21.i, p22, ownOk0⟩
    · rintro Sb12 st11 _ S32 H33 s34 S35 H36 ⟨ex38, ⟨xstep28, rfl, w29, p30, eb31⟩⟩ g37
      exact ⟨ex38.tr g37.s, _, rfl, w29.go (Gm.up g37), PotAt.go p30 g37, eb31.tr g37.s⟩
    · rintro Sb12 x13 st11 _ σ51 S43 H44 s45 st11_ s2_ D_ ⟨ex50, ⟨xstep39, rfl, w40, p41, eb42⟩⟩ hp hm46 nx47
      obtain ⟨_, rfl, rfl⟩ := hp
      refine q_set (fun v => [some (.int p_base), some (.int p_often), some v, some (.int x13)]) (fun _ => rfl) w40 p41 (e_mul (e_var (R := rI) rfl rfl) (e_var (R := rI) rfl rfl)) hm46 ?_
      intro found52 vfound60 S53 H54 s55 w56 p57 g59 rfound61 hm58
      cases (show vfound60 = .int found52 from rfound61)
      have eb42 := eb42.tr g59.s
      have ex50 := ex50.tr g59.s
      cases run_of_pure hm58
      exact (nx47 _ _ _ ⟨ex50, ⟨_, rfl, w56, p57, eb42⟩⟩).1
    · rintro Sb12 st11 _ S66 H67 s68 ⟨_, ⟨xstep62, rfl, w63, p64, eb65⟩⟩ hm69
      refine q_ret w63 p64 (e_var (R := rI) rfl rfl) hm69 ?_
      intro r77 v78 S70 H71 s72 w73 p74 g76 rr79 hm75
      cases run_of_pure hm75
      exact fin _ ⟨S70, w73.g, p74, rr79⟩
end
abbrev t_divisor_sum : Stmt := top 14
theorem sc_divisor_sum : FnScope ["number", "k", "found", "p", "often", "time", "step", "own"] ["number", "k"] (defScope t_divisor_sum) := ⟨rfl, rfl, rfl, by decide +kernel, rfl, by decide +kernel, by decide +kernel⟩
@[irreducible] noncomputable def m_divisor_sum (p_number : Int) (p_k : Int) : Option Int :=
bnd (1 : Int) fun found1 =>
Mir.lft (m_primes_of p_number) >>= fun r176 => (lpS r176 (fun (x13 : (Int × Int)) (st11 : Int) =>
Mir.lft (m_power_of x13.1 p_k) >>= fun r153 => bnd r153 fun step64 =>
bnd (1 : Int) fun own74 =>
Mir.lft (grd (RgB x13.2)) >>= fun _ => (lpS (rng 0 x13.2) (fun (x86 : Int) (st84 : Int) =>
Mir.lft (grd (Sm st84 ∧ Sm step64)) >>= fun _ => bnd ((st84 * step64) + (1 : Int)) fun own125 =>
pure own125) own74) >>= fun (st84 : Int) =>
Mir.lft (grd (Sm st11 ∧ Sm st84)) >>= fun _ => bnd (st11 * st84) fun found143 =>
pure found143) found1) >>= fun (st11 : Int) =>
bnd st11 fun r173 => pure r173
noncomputable abbrev fm_divisor_sum : (Int × Int) → Option Int := fun (a0, a1) => m_divisor_sum a0 a1
abbrev sp_divisor_sum (K : PySem.W.Frag) : Sp := spV F0 fm_divisor_sum (fun _ => (aCons rI (aOne rI))) rI
section
variable {P : Program} {w : World} {K : PySem.W.Frag} {mg : Str → Option Value} {base : Heap}
theorem g_divisor_sum (T : Tx mg base) (D0 : Dk P w K mg base "primes_of" "primes_of" t_primes_of 4 ["number"] (sp_primes_of K)) (D1 : Dk P w K mg base "power_of" "power_of" t_power_of 1 ["base", "often"] (sp_power_of K)) {f : Addr} {fd : FuncData} (F : Fun K "divisor_sum" "divisor_sum" t_divisor_sum f fd) : FnG P w K mg base CX0 5 f fd ["number", "k"] (sp_divisor_sum K) := by
  obtain ⟨f0, fd0, F0, m0, G0, b0⟩ := D0
  obtain ⟨f1, fd1, F1, m1, G1, b1⟩ := D1
  refine okG0 F sc_divisor_sum (fun vs H Q E h => ?_) (fun cdv A outer s0_ H0 vs Q E hr gd h => ?_)
  · obtain ⟨_, _, _, _, _, _, _, _, ⟨_, _, rfl, _, ⟨_, rfl, _⟩⟩, _⟩ := h
    rfl
  · obtain ⟨_, a, S0, s0, r, s', e0, p0, ⟨_, _, rfl, rfl, ⟨_, rfl, rfl⟩⟩, hm0, fin0⟩ := h
    obtain ⟨p_number, p_k⟩ := a
    have fin : ∀ v {H' : Hp}, (∃ S', Gm (pt0).M S0 H0 S' H' ∧ PotAt pt0 s' S' H' ∧ rI r v S') → Q v H' := fun v {H'} ⟨S', h1, h2, h3⟩ => fin0 v S' H' h1 h2 h3
    have w0 : Wd pt0 S0 H0 S0 H0 [] := Wd.start e0
    have hm0 : Mir.run (m_divisor_sum p_number p_k) s0 = some (r, s') := hm0
    unfold m_divisor_sum at hm0
    have sc := sc_divisor_sum
    refine ⟨_, pss_cons (ps_set (i := 2) sc.nd rfl (by first | exact Or.inl rfl | exact Or.inr rfl) (pe_int)) (pss_cons (ps_for PassesOwn.never rfl (k_pit K (pe_cG G0 (hr.mono (by decide)) gd rfl m0 F0.kp b0 pass0 (pa_cons (pv 0) (pa_nil)))) (k_gt K (pgs_cons (pg_name (i := 3) sc.nd rfl (by first | exact Or.inl rfl | exact Or.inr rfl)) (pgs_cons (pg_name (i := 4) sc.nd rfl (by first | exact Or.inl rfl | exact Or.inr rfl)) (pgs_nil)))) (pss_cons (ps_par (i := 6) (j := 7) rfl sc.nd rfl rfl (by decide) rfl rfl (pa_cons (pe_cG G1 (hr.mono (by decide)) gd rfl m1 F1.kp b1 pass0 (pa_cons (pv 3) (pa_cons (pv 1) (pa_nil)))) (pa_cons (pe_int) (pa_nil))) (by rfl)) (pss_cons (ps_for PassesOwn.never rfl (pi_range1 rfl T.n_range (pa_cons (pv 4) pa_nil)) (pg_name (i := 5) sc.nd rfl (by first | exact Or.inl rfl | exact Or.inr rfl)) (pss_cons (ps_set (i := 7) sc.nd rfl (by first | exact Or.inl rfl | exact Or.inr rfl) (pe_op op_add (pe_op op_mulX (pv 7) (pv 6)) (pe_int))) (pss_nil))) (pss_cons (ps_set (i := 2) sc.nd rfl (by first | exact Or.inl rfl | exact Or.inr rfl) (pe_op op_mulX (pv 2) (pv 7))) (pss_nil))))) (pss_cons (ps_ret (pv 2)) (pss_nil))), ?_⟩
    refine q_set (fun v => [some (.int p_number), some (.int p_k), some v, none, none, none, none, none]) (fun _ => rfl) w0 p0 e_cI hm0 ?_
    intro found1 vfound9 S2 H3 s4 w5 p6 g8 rfound10 hm7
    cases (show vfound9 = .int found1 from rfound10)
    refine q_for (p := pt0) w5 p6 (i_T (Ev.eta (e_call (E := E0) (fm := fm_primes_of) (R := (rT K (aAll (rT K (aCons rI (aOne rI)))))) (a_one (e_var (R := rI) rfl rfl))))) (g_tp (gq_cons (g_nm (R := rI)) (gq_one (g_nm (R := rI))))) hm7 (fun Sb12 st11 σ S' H' s' => Ex Sb12 S' ∧ (∃ (xp_ : Option V) (xoften_ : Option V) (xtime_ : Option V) (xstep_ : Option V) (xown_ : Option V), σ = [some (.int p_number), some (.int p_k), some (.int st11), xp_, xoften_, xtime_, xstep_, xown_] ∧ Wd pt0 S0 H0 S' H' [] ∧ PotAt pt0 s' S' H' ∧ Ex S2 S')) ?_ ?_ ?_ ?_ ?_
    · intro S14 H15 s16 w17 p18 g19
      exact ⟨Ex.rf, ⟨_, _, _, _, _, rfl, w17, p18, g19.s⟩⟩
    · rintro Sb12 st11 _ S28 H29 s30 ⟨ex31, ⟨xp20, xoften21, xtime22, xstep23, xown24, rfl, w25, p26, eb27⟩⟩
      exact ⟨ex31, w25.i, p26, ownOk0⟩
    · rintro Sb12 st11 _ S40 H41 s42 S43 H44 ⟨ex46, ⟨xp32, xoften33, xtime34, xstep35, xown36, rfl, w37, p38, eb39⟩⟩ g45
      exact ⟨ex46.tr g45.s, _, _, _, _, _, rfl, w37.go (Gm.up g45), PotAt.go p38 g45, eb39.tr g45.s⟩
    · rintro Sb12 x13 st11 _ σ63 S55 H56 s57 st11_ s2_ D_ ⟨ex62, ⟨xp47, xoften48, xtime49, xstep50, xown51, rfl, w52, p53, eb54⟩⟩ hp hm58 nx59
      obtain ⟨_, ⟨_, rfl, rfl⟩, ⟨_, rfl, rfl⟩⟩ := hp
      refine par_go ?_
      refine x_ev w52 p53 (Ev.eta (e_call (E := E0) (fm := fm_power_of) (R := rI) (a_cons (e_var (R := rI) rfl rfl) (a_one (e_var (R := rI) rfl rfl))))) hm58 ?_
      intro step64 vstep72 S65 H66 s67 w68 p69 g71 rstep73 hm70
      cases (show vstep72 = .int step64 from rstep73)
      have eb54 := eb54.tr g71.s
      have ex62 := ex62.tr g71.s
      refine x_ev w68 p69 e_cI hm70 ?_
      intro own74 vown82 S75 H76 s77 w78 p79 g81 rown83 hm80
      cases (show vown82 = .int own74 from rown83)
      have eb54 := eb54.tr g81.s
      have ex62 := ex62.tr g81.s
      refine par_end [some (.int p_number), some (.int p_k), some (.int st11), some (.int x13.1), some (.int x13.2), xtime49, some (.int step64), some (.int own74)] rfl ?_
      refine q_for (p := pt0) w78 p79 (i_R1 (e_var (R := rI) rfl rfl)) (g_nm (R := rI)) hm80 (fun Sb85 st84 σ S' H' s' => Ex Sb85 S' ∧ (∃ (xtime_ : Option V), σ = [some (.int p_number), some (.int p_k), some (.int st11), some (.int x13.1), some (.int x13.2), xtime_, some (.int step64), some (.int st84)] ∧ Wd pt0 S0 H0 S' H' [] ∧ PotAt pt0 s' S' H' ∧ Ex S75 S')) ?_ ?_ ?_ ?_ ?_
      · intro S87 H88 s89 w90 p91 g92
        have eb54 := eb54.tr g92.s
        have ex62 := ex62.tr g92.s
        exact ⟨Ex.rf, ⟨_, rfl, w90, p91, g92.s⟩⟩
      · rintro Sb85 st84 _ S97 H98 s99 ⟨ex100, ⟨xtime93, rfl, w94, p95, eb96⟩⟩
        exact ⟨ex100, w94.i, p95, ownOk0⟩
      · rintro Sb85 st84 _ S105 H106 s107 S108 H109 ⟨ex111, ⟨xtime101, rfl, w102, p103, eb104⟩⟩ g110
        exact ⟨ex111.tr g110.s, _, rfl, w102.go (Gm.up g110), PotAt.go p103 g110, eb104.tr g110.s⟩
      · rintro Sb85 x86 st84 _ σ124 S116 H117 s118 st84_ s2_ D_ ⟨ex123, ⟨xtime112, rfl, w113, p114, eb115⟩⟩ hp hm119 nx120
        obtain ⟨_, rfl, rfl⟩ := hp
        have eb54 := eb54.tr eb115
        have ex62 := ex62.tr eb115
        refine q_set (fun v => [some (.int p_number), some (.int p_k), some (.int st11), some (.int x13.1), some (.int x13.2), some (.int x86), some (.int step64), some v]) (fun _ => rfl) w113 p114 (e_add (e_mul (e_var (R := rI) rfl rfl) (e_var (R := rI) rfl rfl)) e_cI) hm119 ?_
        intro own125 vown133 S126 H127 s128 w129 p130 g132 rown134 hm131
        cases (show vown133 = .int own125 from rown134)
        have eb54 := eb54.tr g132.s
        have ex62 := ex62.tr g132.s
        have eb115 := eb115.tr g132.s
        have ex123 := ex123.tr g132.s
        cases run_of_pure hm131
        exact (nx120 _ _ _ ⟨ex123, ⟨_, rfl, w129, p130, eb115⟩⟩).1
      · rintro Sb85 st84 _ S139 H140 s141 ⟨_, ⟨xtime135, rfl, w136, p137, eb138⟩⟩ hm142
        have eb54 := eb54.tr eb138
        have ex62 := ex62.tr eb138
        refine q_set (fun v => [some (.int p_number), some (.int p_k), some v, some (.int x13.1), some (.int x13.2), xtime135, some (.int step64), some (.int st84)]) (fun _ => rfl) w136 p137 (e_mul (e_var (R := rI) rfl rfl) (e_var (R := rI) rfl rfl)) hm142 ?_
        intro found143 vfound151 S144 H145 s146 w147 p148 g150 rfound152 hm149
        cases (show vfound151 = .int found143 from rfound152)
        have eb54 := eb54.tr g150.s
        have ex62 := ex62.tr g150.s
        cases run_of_pure hm149
        exact (nx59 _ _ _ ⟨ex62, ⟨_, _, _, _, _, rfl, w147, p148, eb54⟩⟩).1
    · rintro Sb12 st11 _ S162 H163 s164 ⟨_, ⟨xp154, xoften155, xtime156, xstep157, xown158, rfl, w159, p160, eb161⟩⟩ hm165
      refine q_ret w159 p160 (e_var (R := rI) rfl rfl) hm165 ?_
      intro r173 v174 S166 H167 s168 w169 p170 g172 rr175 hm171
      cases run_of_pure hm171
      exact fin _ ⟨S166, w169.g, p170, rr175⟩
end
abbrev t_two_less : Stmt := top 16
theorem sc_two_less : FnScope ["p"] ["p"] (defScope t_two_less) := ⟨rfl, rfl, rfl, by decide +kernel, rfl, by decide +kernel, by decide +kernel⟩
@[irreducible] noncomputable def m_two_less (p_p : Int) : Option Int :=
Mir.lft (grd (Sl (1 : Int) p_p)) >>= fun _ => bnd (((1 : Int) * 2 ^ Int.toNat p_p) - (1 : Int)) fun r8 => pure r8
noncomputable abbrev fm_two_less : (Int) → Option Int := fun a => m_two_less a
abbrev sp_two_less (K : PySem.W.Frag) : Sp := spV F0 fm_two_less (fun _ => (aOne rI)) rI
section
variable {P : Program} {w : World} {K : PySem.W.Frag} {mg : Str → Option Value} {base : Heap}
theorem g_two_less (T : Tx mg base)  {f : Addr} {fd : FuncData} (F : Fun K "two_less" "two_less" t_two_less f fd) : FnG P w K mg base CX0 1 f fd ["p"] (sp_two_less K) := by
  refine okG0 F sc_two_less (fun vs H Q E h => ?_) (fun cdv A outer s0_ H0 vs Q E hr gd h => ?_)
  · obtain ⟨_, _, _, _, _, _, _, _, ⟨_, rfl, _⟩, _⟩ := h
    rfl
  · obtain ⟨_, p_p, S0, s0, r, s', e0, p0, ⟨_, rfl, rfl⟩, hm0, fin0⟩ := h
    have fin : ∀ v {H' : Hp}, (∃ S', Gm (pt0).M S0 H0 S' H' ∧ PotAt pt0 s' S' H' ∧ rI r v S') → Q v H' := fun v {H'} ⟨S', h1, h2, h3⟩ => fin0 v S' H' h1 h2 h3
    have w0 : Wd pt0 S0 H0 S0 H0 [] := Wd.start e0
    have hm0 : Mir.run (m_two_less p_p) s0 = some (r, s') := hm0
    unfold m_two_less at hm0
    have sc := sc_two_less
    refine ⟨_, pss_cons (ps_ret (pe_op op_sub (pe_op op_shlW (pe_int) (pv 0)) (pe_int))) (pss_nil), ?_⟩
    refine q_ret w0 p0 (e_sub (e_shl e_cI (e_var (R := rI) rfl rfl)) e_cI) hm0 ?_
    intro r8 v9 S1 H2 s3 w4 p5 g7 rr10 hm6
    cases run_of_pure hm6
    exact fin _ ⟨S1, w4.g, p5, rr10⟩
end
abbrev t_squares_rest : Stmt := top 17
theorem sc_squares_rest : FnScope ["p", "step", "number", "found"] ["p"] (defScope t_squares_rest) := ⟨rfl, rfl, rfl, by decide +kernel, rfl, by decide +kernel, by decide +kernel⟩
@[irreducible] noncomputable def m_squares_rest (p_p : Int) : Option Int :=
Mir.lft (m_two_less p_p) >>= fun r90 => bnd r90 fun number1 =>
bnd (4 : Int) fun found11 =>
Mir.lft (grd (RgB (p_p - (2 : Int)))) >>= fun _ => (lpS (rng 0 (p_p - (2 : Int))) (fun (x23 : Int) (st21 : Int) =>
Mir.lft (grd (Sm st21 ∧ Sm st21)) >>= fun _ => Mir.lft (grd (0 < number1)) >>= fun _ => bnd (((st21 * st21) - (2 : Int)) % number1) fun found62 =>
pure found62) found11) >>= fun (st21 : Int) =>
bnd st21 fun r87 => pure r87
noncomputable abbrev fm_squares_rest : (Int) → Option Int := fun a => m_squares_rest a
abbrev sp_squares_rest (K : PySem.W.Frag) : Sp := spV F0 fm_squares_rest (fun _ => (aOne rI)) rI
section
variable {P : Program} {w : World} {K : PySem.W.Frag} {mg : Str → Option Value} {base : Heap}
theorem g_squares_rest (T : Tx mg base) (D0 : Dk P w K mg base "two_less" "two_less" t_two_less 1 ["p"] (sp_two_less K)) {f : Addr} {fd : FuncData} (F : Fun K "squares_rest" "squares_rest" t_squares_rest f fd) : FnG P w K mg base CX0 2 f fd ["p"] (sp_squares_rest K) := by
  obtain ⟨f0, fd0, F0, m0, G0, b0⟩ := D0
  refine okG0 F sc_squares_rest (fun vs H Q E h => ?_) (fun cdv A outer s0_ H0 vs Q E hr gd h => ?_)
  · obtain ⟨_, _, _, _, _, _, _, _, ⟨_, rfl, _⟩, _⟩ := h
    rfl
  · obtain ⟨_, p_p, S0, s0, r, s', e0, p0, ⟨_, rfl, rfl⟩, hm0, fin0⟩ := h
    have fin : ∀ v {H' : Hp}, (∃ S', Gm (pt0).M S0 H0 S' H' ∧ PotAt pt0 s' S' H' ∧ rI r v S') → Q v H' := fun v {H'} ⟨S', h1, h2, h3⟩ => fin0 v S' H' h1 h2 h3
    have w0 : Wd pt0 S0 H0 S0 H0 [] := Wd.start e0
    have hm0 : Mir.run (m_squares_rest p_p) s0 = some (r, s') := hm0
    unfold m_squares_rest at hm0
    have sc := sc_squares_rest
    refine ⟨_, pss_cons (ps_par (i := 2) (j := 3) rfl sc.nd rfl rfl (by decide) rfl rfl (pa_cons (pe_cG G0 (hr.mono (by decide)) gd rfl m0 F0.kp b0 pass0 (pa_cons (pv 0) (pa_nil))) (pa_cons (pe_int) (pa_nil))) (by rfl)) (pss_cons (ps_for PassesOwn.never rfl (pi_range1 rfl T.n_range (pa_cons (pe_op op_sub (pv 0) (pe_int)) pa_nil)) (pg_name (i := 1) sc.nd rfl (by first | exact Or.inl rfl | exact Or.inr rfl)) (pss_cons (ps_set (i := 3) sc.nd rfl (by first | exact Or.inl rfl | exact Or.inr rfl) (pe_op op_mod (pe_op op_sub (pe_op op_mulX (pv 3) (pv 3)) (pe_int)) (pv 2))) (pss_nil))) (pss_cons (ps_ret (pv 3)) (pss_nil))), ?_⟩
    refine par_go ?_
    refine x_ev w0 p0 (Ev.eta (e_call (E := E0) (fm := fm_two_less) (R := rI) (a_one (e_var (R := rI) rfl rfl)))) hm0 ?_
    intro number1 vnumber9 S2 H3 s4 w5 p6 g8 rnumber10 hm7
    cases (show vnumber9 = .int number1 from rnumber10)
    refine x_ev w5 p6 e_cI hm7 ?_
    intro found11 vfound19 S12 H13 s14 w15 p16 g18 rfound20 hm17
    cases (show vfound19 = .int found11 from rfound20)
    refine par_end [some (.int p_p), none, some (.int number1), some (.int found11)] rfl ?_
    refine q_for (p := pt0) w15 p16 (i_R1 (e_sub (e_var (R := rI) rfl rfl) e_cI)) (g_nm (R := rI)) hm17 (fun Sb22 st21 σ S' H' s' => Ex Sb22 S' ∧ (∃ (xstep_ : Option V), σ = [some (.int p_p), xstep_, some (.int number1), some (.int st21)] ∧ Wd pt0 S0 H0 S' H' [] ∧ PotAt pt0 s' S' H' ∧ Ex S12 S')) ?_ ?_ ?_ ?_ ?_
    · intro S24 H25 s26 w27 p28 g29
      exact ⟨Ex.rf, ⟨_, rfl, w27, p28, g29.s⟩⟩
    · rintro Sb22 st21 _ S34 H35 s36 ⟨ex37, ⟨xstep30, rfl, w31, p32, eb33⟩⟩
      exact ⟨ex37, w31.i, p32, ownOk0⟩
    · rintro Sb22 st21 _ S42 H43 s44 S45 H46 ⟨ex48, ⟨xstep38, rfl, w39, p40, eb41⟩⟩ g47
      exact ⟨ex48.tr g47.s, _, rfl, w39.go (Gm.up g47), PotAt.go p40 g47, eb41.tr g47.s⟩
    · rintro Sb22 x23 st21 _ σ61 S53 H54 s55 st21_ s2_ D_ ⟨ex60, ⟨xstep49, rfl, w50, p51, eb52⟩⟩ hp hm56 nx57
      obtain ⟨_, rfl, rfl⟩ := hp
      refine q_set (fun v => [some (.int p_p), some (.int x23), some (.int number1), some v]) (fun _ => rfl) w50 p51 (e_mod (e_sub (e_mul (e_var (R := rI) rfl rfl) (e_var (R := rI) rfl rfl)) e_cI) (e_var (R := rI) rfl rfl)) hm56 ?_
      intro found62 vfound70 S63 H64 s65 w66 p67 g69 rfound71 hm68
      cases (show vfound70 = .int found62 from rfound71)
      have eb52 := eb52.tr g69.s
      have ex60 := ex60.tr g69.s
      cases run_of_pure hm68
      exact (nx57 _ _ _ ⟨ex60, ⟨_, rfl, w66, p67, eb52⟩⟩).1
    · rintro Sb22 st21 _ S76 H77 s78 ⟨_, ⟨xstep72, rfl, w73, p74, eb75⟩⟩ hm79
      refine q_ret w73 p74 (e_var (R := rI) rfl rfl) hm79 ?_
      intro r87 v88 S80 H81 s82 w83 p84 g86 rr89 hm85
      cases run_of_pure hm85
      exact fin _ ⟨S80, w83.g, p84, rr89⟩
end
abbrev t_two_less_is_prime : Stmt := top 18
theorem sc_two_less_is_prime : FnScope ["p"] ["p"] (defScope t_two_less_is_prime) := ⟨rfl, rfl, rfl, by decide +kernel, rfl, by decide +kernel, by decide +kernel⟩
@[irreducible] noncomputable def m_two_less_is_prime (p_p : Int) : Option Bool :=
if (decide (p_p = (2 : Int))) = true then
(bnd true fun r15 => pure r15)
else
(Mir.lft (m_is_prime_number p_p) >>= fun r36 => (if r36 = true then Mir.lft (m_squares_rest p_p) >>= fun r37 => pure (decide (r37 = (0 : Int))) else pure false) >>= fun b35 => bnd b35 fun r32 => pure r32)
noncomputable abbrev fm_two_less_is_prime : (Int) → Option Bool := fun a => m_two_less_is_prime a
abbrev sp_two_less_is_prime (K : PySem.W.Frag) : Sp := spV F0 fm_two_less_is_prime (fun _ => (aOne rI)) rB
section
variable {P : Program} {w : World} {K : PySem.W.Frag} {mg : Str → Option Value} {base : Heap}
theorem g_two_less_is_prime (T : Tx mg base) (D0 : Dk P w K mg base "is_prime_number" "is_prime_number" t_is_prime_number 3 ["number"] (sp_is_prime_number K)) (D1 : Dk P w K mg base "squares_rest" "squares_rest" t_squares_rest 2 ["p"] (sp_squares_rest K)) {f : Addr} {fd : FuncData} (F : Fun K "two_less_is_prime" "two_less_is_prime" t_two_less_is_prime f fd) : FnG P w K mg base CX0 4 f fd ["p"] (sp_two_less_is_prime K) := by
  obtain ⟨f0, fd0, F0, m0, G0, b0⟩ := D0
  obtain ⟨f1, fd1, F1, m1, G1, b1⟩ := D1
  refine okG0 F sc_two_less_is_prime (fun vs H Q E h => ?_) (fun cdv A outer s0_ H0 vs Q E hr gd h => ?_)
  · obtain ⟨_, _, _, _, _, _, _, _, ⟨_, rfl, _⟩, _⟩ := h
    rfl
  · obtain ⟨_, p_p, S0, s0, r, s', e0, p0, ⟨_, rfl, rfl⟩, hm0, fin0⟩ := h
    have fin : ∀ v {H' : Hp}, (∃ S', Gm (pt0).M S0 H0 S' H' ∧ PotAt pt0 s' S' H' ∧ rB r v S') → Q v H' := fun v {H'} ⟨S', h1, h2, h3⟩ => fin0 v S' H' h1 h2 h3
    have w0 : Wd pt0 S0 H0 S0 H0 [] := Wd.start e0
    have hm0 : Mir.run (m_two_less_is_prime p_p) s0 = some (r, s') := hm0
    unfold m_two_less_is_prime at hm0
    have sc := sc_two_less_is_prime
    refine ⟨_, pss_cons (ps_if (pt_cmpR op_eq (pv 0) (pe_int) (nomark _)) (pss_cons (ps_ret (pe_bl)) (pss_nil)) (pss_nil)) (pss_cons (ps_ret (pe_and (pe_cG G0 (hr.mono (by decide)) gd rfl m0 F0.kp b0 pass0 (pa_cons (pv 0) (pa_nil))) (pe_one (pe_cmpR op_eq (pe_cG G1 (hr.mono (by decide)) gd rfl m1 F1.kp b1 pass0 (pa_cons (pv 0) (pa_nil))) (pe_int) (nomark _))))) (pss_nil)), ?_⟩
    refine q_if w0 p0 (t_Test (e_eq (e_var (R := rI) rfl rfl) e_cI)) hm0 ?_ ?_
    · intro S1 H2 s3 w4 p5 g6 hm7
      refine q_ret w4 p5 e_cB hm7 ?_
      intro r15 v16 S8 H9 s10 w11 p12 g14 rr17 hm13
      cases run_of_pure hm13
      exact fin _ ⟨S8, w11.g, p12, rr17⟩
    · intro S18 H19 s20 w21 p22 g23 hm24
      refine nx_done ?_
      refine q_ret w21 p22 (e_and (Ev.eta (e_call (E := E0) (fm := fm_is_prime_number) (R := rB) (a_one (e_var (R := rI) rfl rfl)))) (e_eq (Ev.eta (e_call (E := E0) (fm := fm_squares_rest) (R := rI) (a_one (e_var (R := rI) rfl rfl)))) e_cI)) hm24 ?_
      intro r32 v33 S25 H26 s27 w28 p29 g31 rr34 hm30
      cases run_of_pure hm30
      exact fin _ ⟨S25, w28.g, p29, rr34⟩
end
abbrev t_is_perfect : Stmt := top 20
theorem sc_is_perfect : FnScope ["number"] ["number"] (defScope t_is_perfect) := ⟨rfl, rfl, rfl, by decide +kernel, rfl, by decide +kernel, by decide +kernel⟩
@[irreducible] noncomputable def m_is_perfect (p_number : Int) : Option Bool :=
Mir.lft (m_divisor_sum p_number (1 : Int)) >>= fun r11 => Mir.lft (grd (Sm (2 : Int) ∧ Sm p_number)) >>= fun _ => bnd (decide (r11 = ((2 : Int) * p_number))) fun r8 => pure r8
noncomputable abbrev fm_is_perfect : (Int) → Option Bool := fun a => m_is_perfect a
abbrev sp_is_perfect (K : PySem.W.Frag) : Sp := spV F0 fm_is_perfect (fun _ => (aOne rI)) rB
section
variable {P : Program} {w : World} {K : PySem.W.Frag} {mg : Str → Option Value} {base : Heap}
theorem g_is_perfect (T : Tx mg base) (D0 : Dk P w K mg base "divisor_sum" "divisor_sum" t_divisor_sum 5 ["number", "k"] (sp_divisor_sum K)) {f : Addr} {fd : FuncData} (F : Fun K "is_perfect" "is_perfect" t_is_perfect f fd) : FnG P w K mg base CX0 6 f fd ["number"] (sp_is_perfect K) := by
  obtain ⟨f0, fd0, F0, m0, G0, b0⟩ := D0
  refine okG0 F sc_is_perfect (fun vs H Q E h => ?_) (fun cdv A outer s0_ H0 vs Q E hr gd h => ?_)
  · obtain ⟨_, _, _, _, _, _, _, _, ⟨_, rfl, _⟩, _⟩ := h
    rfl
  · obtain ⟨_, p_number, S0, s0, r, s', e0, p0, ⟨_, rfl, rfl⟩, hm0, fin0⟩ := h
    have fin : ∀ v {H' : Hp}, (∃ S', Gm (pt0).M S0 H0 S' H' ∧ PotAt pt0 s' S' H' ∧ rB r v S') → Q v H' := fun v {H'} ⟨S', h1, h2, h3⟩ => fin0 v S' H' h1 h2 h3
    have w0 : Wd pt0 S0 H0 S0 H0 [] := Wd.start e0
    have hm0 : Mir.run (m_is_perfect p_number) s0 = some (r, s') := hm0
    unfold m_is_perfect at hm0
    have sc := sc_is_perfect
    refine ⟨_, pss_cons (ps_ret (pe_cmpR op_eq (pe_cG G0 (hr.mono (by decide)) gd rfl m0 F0.kp b0 pass0 (pa_cons (pv 0) (pa_cons (pe_int) (pa_nil)))) (pe_op op_mulX (pe_int) (pv 0)) (nomark _))) (pss_nil), ?_⟩
    refine q_ret w0 p0 (e_eq (Ev.eta (e_call (E := E0) (fm := fm_divisor_sum) (R := rI) (a_cons (e_var (R := rI) rfl rfl) (a_one e_cI)))) (e_mul e_cI (e_var (R := rI) rfl rfl))) hm0 ?_
    intro r8 v9 S1 H2 s3 w4 p5 g7 rr10 hm6
    cases run_of_pure hm6
    exact fin _ ⟨S1, w4.g, p5, rr10⟩
end
abbrev t_even_perfect : Stmt := top 21
theorem sc_even_perfect : FnScope ["p", "number"] ["p"] (defScope t_even_perfect) := ⟨rfl, rfl, rfl, by decide +kernel, rfl, by decide +kernel, by decide +kernel⟩
@[irreducible] noncomputable def m_even_perfect (p_p : Int) : Option Int :=
Mir.lft (m_two_less_is_prime p_p) >>= fun r36 => if (!r36) = true then
(Mir.lft (none : Option Unit) >>= fun _ => Mir.lft none)
else
(Mir.lft (m_two_less p_p) >>= fun r35 => bnd r35 fun number15 =>
Mir.lft (grd (Dv (2 : Int))) >>= fun _ => Mir.lft (grd (Sm ((number15 + (1 : Int)) / (2 : Int)) ∧ Sm number15)) >>= fun _ => bnd (((number15 + (1 : Int)) / (2 : Int)) * number15) fun r32 => pure r32)
noncomputable abbrev fm_even_perfect : (Int) → Option Int := fun a => m_even_perfect a
abbrev sp_even_perfect (K : PySem.W.Frag) : Sp := spV F0 fm_even_perfect (fun _ => (aOne rI)) rI
section
variable {P : Program} {w : World} {K : PySem.W.Frag} {mg : Str → Option Value} {base : Heap}
theorem g_even_perfect (T : Tx mg base) (D0 : Dk P w K mg base "two_less_is_prime" "two_less_is_prime" t_two_less_is_prime 4 ["p"] (sp_two_less_is_prime K)) (D1 : Dk P w K mg base "two_less" "two_less" t_two_less 1 ["p"] (sp_two_less K)) {f : Addr} {fd : FuncData} (F : Fun K "even_perfect" "even_perfect" t_even_perfect f fd) : FnG P w K mg base CX0 5 f fd ["p"] (sp_even_perfect K) := by
  obtain ⟨f0, fd0, F0, m0, G0, b0⟩ := D0
  obtain ⟨f1, fd1, F1, m1, G1, b1⟩ := D1
  refine okG0 F sc_even_perfect (fun vs H Q E h => ?_) (fun cdv A outer s0_ H0 vs Q E hr gd h => ?_)
  · obtain ⟨_, _, _, _, _, _, _, _, ⟨_, rfl, _⟩, _⟩ := h
    rfl
  · obtain ⟨_, p_p, S0, s0, r, s', e0, p0, ⟨_, rfl, rfl⟩, hm0, fin0⟩ := h
    have fin : ∀ v {H' : Hp}, (∃ S', Gm (pt0).M S0 H0 S' H' ∧ PotAt pt0 s' S' H' ∧ rI r v S') → Q v H' := fun v {H'} ⟨S', h1, h2, h3⟩ => fin0 v S' H' h1 h2 h3
    have w0 : Wd pt0 S0 H0 S0 H0 [] := Wd.start e0
    have hm0 : Mir.run (m_even_perfect p_p) s0 = some (r, s') := hm0
    unfold m_even_perfect at hm0
    have sc := sc_even_perfect
    refine ⟨_, pss_cons (ps_if (pt_not (pt_val (pe_cG G0 (hr.mono (by decide)) gd rfl m0 F0.kp b0 pass0 (pa_cons (pv 0) (pa_nil))))) (pss_cons (ps_dead) (pss_nil)) (pss_nil)) (pss_cons (ps_set (i := 1) sc.nd rfl (by first | exact Or.inl rfl | exact Or.inr rfl) (pe_cG G1 (hr.mono (by decide)) gd rfl m1 F1.kp b1 pass0 (pa_cons (pv 0) (pa_nil)))) (pss_cons (ps_ret (pe_op op_mulX (pe_op op_fdivW (pe_op op_add (pv 1) (pe_int)) (pe_int)) (pv 1))) (pss_nil))), ?_⟩
    refine q_if w0 p0 (t_not (t_B (Ev.eta (e_call (E := E0) (fm := fm_two_less_is_prime) (R := rB) (a_one (e_var (R := rI) rfl rfl)))))) hm0 ?_ ?_
    · intro S1 H2 s3 w4 p5 g6 hm7
      exact q_dead hm7
    · intro S8 H9 s10 w11 p12 g13 hm14
      refine nx_done ?_
      refine q_set (fun v => [some (.int p_p), some v]) (fun _ => rfl) w11 p12 (Ev.eta (e_call (E := E0) (fm := fm_two_less) (R := rI) (a_one (e_var (R := rI) rfl rfl)))) hm14 ?_
      intro number15 vnumber23 S16 H17 s18 w19 p20 g22 rnumber24 hm21
      cases (show vnumber23 = .int number15 from rnumber24)
      refine q_ret w19 p20 (e_mul (e_fdiv (e_add (e_var (R := rI) rfl rfl) e_cI) e_cI) (e_var (R := rI) rfl rfl)) hm21 ?_
      intro r32 v33 S25 H26 s27 w28 p29 g31 rr34 hm30
      cases run_of_pure hm30
      exact fin _ ⟨S25, w28.g, p29, rr34⟩
end
abbrev t_perfect_exponent : Stmt := top 22
theorem sc_perfect_exponent : FnScope ["value", "p", "rest"] ["value"] (defScope t_perfect_exponent) := ⟨rfl, rfl, rfl, by decide +kernel, rfl, by decide +kernel, by decide +kernel⟩
@[irreducible] noncomputable def m_perfect_exponent (p_value : Int) : Option (Option Int) :=
bnd (1 : Int) fun p1 =>
bnd p_value fun rest11 =>
(whS many (fun (st21 : Int × Int) k => Mir.lft (grd (0 < (2 : Int))) >>= fun _ => k (decide ((st21.2 % (2 : Int)) = (0 : Int)))) (fun (st21 : Int × Int) =>
bnd (st21.1 + (1 : Int)) fun p52 =>
Mir.lft (grd (Dv (2 : Int))) >>= fun _ => bnd (st21.2 / (2 : Int)) fun rest62 =>
pure (p52, rest62)) (p1, rest11)) >>= fun (st21 : Int × Int) =>
(if (!((decide ((2 : Int) ≤ st21.1)) && (decide (st21.1 ≤ (607 : Int))))) = true then pure true else Mir.lft (m_two_less st21.1) >>= fun r115 => pure (!decide (st21.2 = r115))) >>= fun b114 => if b114 = true then
(bnd none fun r93 => pure r93)
else
(Mir.lft (m_two_less_is_prime st21.1) >>= fun r113 => bnd (if r113 = true then (some st21.1) else none) fun r110 => pure r110)
noncomputable abbrev fm_perfect_exponent : (Int) → Option (Option Int) := fun a => m_perfect_exponent a
abbrev sp_perfect_exponent (K : PySem.W.Frag) : Sp := spV F0 fm_perfect_exponent (fun _ => (aOne rI)) (rO rI)
section
variable {P : Program} {w : World} {K : PySem.W.Frag} {mg : Str → Option Value} {base : Heap}
theorem g_perfect_exponent (T : Tx mg base) (D0 : Dk P w K mg base "two_less" "two_less" t_two_less 1 ["p"] (sp_two_less K)) (D1 : Dk P w K mg base "two_less_is_prime" "two_less_is_prime" t_two_less_is_prime 4 ["p"] (sp_two_less_is_prime K)) {f : Addr} {fd : FuncData} (F : Fun K "perfect_exponent" "perfect_exponent" t_perfect_exponent f fd) : FnG P w K mg base CX0 5 f fd ["value"] (sp_perfect_exponent K) := by
  obtain ⟨f0, fd0, F0, m0, G0, b0⟩ := D0
  obtain ⟨f1, fd1, F1, m1, G1, b1⟩ := D1
  refine okG0 F sc_perfect_exponent (fun vs H Q E h => ?_) (fun cdv A outer s0_ H0 vs Q E hr gd h => ?_)
  · obtain ⟨_, _, _, _, _, _, _, _, ⟨_, rfl, _⟩, _⟩ := h
    rfl
  · obtain ⟨_, p_value, S0, s0, r, s', e0, p0, ⟨_, rfl, rfl⟩, hm0, fin0⟩ := h
    have fin : ∀ v {H' : Hp}, (∃ S', Gm (pt0).M S0 H0 S' H' ∧ PotAt pt0 s' S' H' ∧ (rO rI) r v S') → Q v H' := fun v {H'} ⟨S', h1, h2, h3⟩ => fin0 v S' H' h1 h2 h3
    have w0 : Wd pt0 S0 H0 S0 H0 [] := Wd.start e0
    have hm0 : Mir.run (m_perfect_exponent p_value) s0 = some (r, s') := hm0
    unfold m_perfect_exponent at hm0
    have sc := sc_perfect_exponent
    refine ⟨_, pss_cons (ps_par (i := 1) (j := 2) rfl sc.nd rfl rfl (by decide) rfl rfl (pa_cons (pe_int) (pa_cons (pv 0) (pa_nil))) (by rfl)) (pss_cons (ps_while PassesOwn.never (pt_cmpR op_eq (pe_op op_mod (pv 2) (pe_int)) (pe_int) (nomark _)) (pss_cons (ps_par (i := 1) (j := 2) rfl sc.nd rfl rfl (by decide) rfl rfl (pa_cons (pe_op op_add (pv 1) (pe_int)) (pa_cons (pe_op op_fdivW (pv 2) (pe_int)) (pa_nil))) (by rfl)) (pss_nil))) (pss_cons (ps_if (PW.pt (pw_or (pt_not (pt_chain op_le op_le (pe_int) (pv 1) (pe_glob (v := .int 607) rfl T.c_MAX_EXPONENT.choose_spec ⟨_, rfl⟩))) (pw_or1 (pt_cmpR op_ne (pv 2) (pe_cG G0 (hr.mono (by decide)) gd rfl m0 F0.kp b0 pass0 (pa_cons (pv 1) (pa_nil))) (nomark _))))) (pss_cons (ps_ret (pe_non)) (pss_nil)) (pss_nil)) (pss_cons (ps_ret (pe_ifExp (pt_val (pe_cG G1 (hr.mono (by decide)) gd rfl m1 F1.kp b1 pass0 (pa_cons (pv 1) (pa_nil)))) (pv 1) (pe_non))) (pss_nil)))), ?_⟩
    refine par_go ?_
    refine x_ev w0 p0 e_cI hm0 ?_
    intro p1 vp9 S2 H3 s4 w5 p6 g8 rp10 hm7
    cases (show vp9 = .int p1 from rp10)
    refine x_ev w5 p6 (e_var (R := rI) rfl rfl) hm7 ?_
    intro rest11 vrest19 S12 H13 s14 w15 p16 g18 rrest20 hm17
    cases (show vrest19 = .int rest11 from rrest20)
    refine par_end [some (.int p_value), some (.int p1), some (.int rest11)] rfl ?_
    refine q_wh (p := pt0) (fun st21 σ S' H' s' => σ = [some (.int p_value), some (.int st21.1), some (.int st21.2)] ∧ Wd pt0 S0 H0 S' H' [] ∧ PotAt pt0 s' S' H' ∧ Ex S12 S') ⟨rfl, w15, p16, Ex.rf⟩ hm17 ?_ ?_ ?_ ?_
    · rintro st21 _ S27 H28 s29 ⟨rfl, w24, p25, eb26⟩
      exact ⟨p25, w24.i, (t_Test (e_eq (e_mod (e_var (R := rI) rfl rfl) e_cI) e_cI))⟩
    · rintro st21 _ S33 H34 s35 S36 H37 s38 ⟨rfl, w30, p31, eb32⟩ g39 p40
      exact ⟨rfl, w30.go g39, p40, eb32.tr g39.s⟩
    · rintro st21 _ S44 H45 s46 st21_ s2_ D_ ⟨rfl, w41, p42, eb43⟩ hm47 nx48
      refine par_go ?_
      refine x_ev w41 p42 (e_add (e_var (R := rI) rfl rfl) e_cI) hm47 ?_
      intro p52 vp60 S53 H54 s55 w56 p57 g59 rp61 hm58
      cases (show vp60 = .int p52 from rp61)
      have eb43 := eb43.tr g59.s
      refine x_ev w56 p57 (e_fdiv (e_var (R := rI) rfl rfl) e_cI) hm58 ?_
      intro rest62 vrest70 S63 H64 s65 w66 p67 g69 rrest71 hm68
      cases (show vrest70 = .int rest62 from rrest71)
      have eb43 := eb43.tr g69.s
      refine par_end [some (.int p_value), some (.int p52), some (.int rest62)] rfl ?_
      cases run_of_pure hm68
      exact (nx48 _ _ _ ⟨rfl, w66, p67, eb43⟩).1
    · rintro st21 _ S75 H76 s77 ⟨rfl, w72, p73, eb74⟩ hm78
      refine q_if w72 p73 (t_or (t_not (t_Test (e_chainT ci_le ci_le e_cI (e_var (R := rI) rfl rfl) e_cI))) (t_Test (e_ne (e_var (R := rI) rfl rfl) (Ev.eta (e_call (E := E0) (fm := fm_two_less) (R := rI) (a_one (e_var (R := rI) rfl rfl))))))) hm78 ?_ ?_
      · intro S79 H80 s81 w82 p83 g84 hm85
        refine q_ret w82 p83 (Ev.none (R := rI) e_cN) hm85 ?_
        intro r93 v94 S86 H87 s88 w89 p90 g92 rr95 hm91
        cases run_of_pure hm91
        exact fin _ ⟨S86, w89.g, p90, rr95⟩
      · intro S96 H97 s98 w99 p100 g101 hm102
        refine nx_done ?_
        refine q_ret w99 p100 (e_ifT (R := (rO rI)) (t_B (Ev.eta (e_call (E := E0) (fm := fm_two_less_is_prime) (R := rB) (a_one (e_var (R := rI) rfl rfl))))) (Ev.some (e_var (R := rI) rfl rfl)) (Ev.none (R := rI) e_cN)) hm102 ?_
        intro r110 v111 S103 H104 s105 w106 p107 g109 rr112 hm108
        cases run_of_pure hm108
        exact fin _ ⟨S103, w106.g, p107, rr112⟩
end
abbrev t_perfect_paper : Stmt := top 23
theorem sc_perfect_paper : FnScope ["number", "p", "total"] ["number"] (defScope t_perfect_paper) := ⟨rfl, rfl, rfl, by decide +kernel, rfl, by decide +kernel, by decide +kernel⟩
@[irreducible] noncomputable def m_perfect_paper (p_number : Int) : Option (Str × Int) :=
Mir.lft (m_perfect_exponent p_number) >>= fun r71 => bnd r71 fun p1 =>
if (!Option.isNone p1) = true then
(Mir.lft p1 >>= fun u28 => bnd (("even" : Str), u28) fun r25 => pure r25)
else
(Mir.lft (m_divisor_sum p_number (1 : Int)) >>= fun r70 => bnd r70 fun total36 =>
Mir.lft (grd (Sm (2 : Int) ∧ Sm p_number)) >>= fun _ => if (decide (total36 = ((2 : Int) * p_number))) = true then
(Mir.lft (none : Option Unit) >>= fun _ => Mir.lft none)
else
(bnd (("sum" : Str), total36) fun r67 => pure r67))
noncomputable abbrev fm_perfect_paper : (Int) → Option (Str × Int) := fun a => m_perfect_paper a
abbrev sp_perfect_paper (K : PySem.W.Frag) : Sp := spV F0 fm_perfect_paper (fun _ => (aOne rI)) (rT K (aCons rS (aOne rI)))
section
variable {P : Program} {w : World} {K : PySem.W.Frag} {mg : Str → Option Value} {base : Heap}
theorem g_perfect_paper (T : Tx mg base) (D0 : Dk P w K mg base "perfect_exponent" "perfect_exponent" t_perfect_exponent 5 ["value"] (sp_perfect_exponent K)) (D1 : Dk P w K mg base "divisor_sum" "divisor_sum" t_divisor_sum 5 ["number", "k"] (sp_divisor_sum K)) {f : Addr} {fd : FuncData} (F : Fun K "perfect_paper" "perfect_paper" t_perfect_paper f fd) : FnG P w K mg base CX0 6 f fd ["number"] (sp_perfect_paper K) := by
  obtain ⟨f0, fd0, F0, m0, G0, b0⟩ := D0
  obtain ⟨f1, fd1, F1, m1, G1, b1⟩ := D1
  refine okG0 F sc_perfect_paper (fun vs H Q E h => ?_) (fun cdv A outer s0_ H0 vs Q E hr gd h => ?_)
  · obtain ⟨_, _, _, _, _, _, _, _, ⟨_, rfl, _⟩, _⟩ := h
    rfl
  · obtain ⟨_, p_number, S0, s0, r, s', e0, p0, ⟨_, rfl, rfl⟩, hm0, fin0⟩ := h
    have fin : ∀ v {H' : Hp}, (∃ S', Gm (pt0).M S0 H0 S' H' ∧ PotAt pt0 s' S' H' ∧ (rT K (aCons rS (aOne rI))) r v S') → Q v H' := fun v {H'} ⟨S', h1, h2, h3⟩ => fin0 v S' H' h1 h2 h3
    have w0 : Wd pt0 S0 H0 S0 H0 [] := Wd.start e0
    have hm0 : Mir.run (m_perfect_paper p_number) s0 = some (r, s') := hm0
    unfold m_perfect_paper at hm0
    have sc := sc_perfect_paper
    refine ⟨_, pss_cons (ps_set (i := 1) sc.nd rfl (by first | exact Or.inl rfl | exact Or.inr rfl) (pe_cG G0 (hr.mono (by decide)) gd rfl m0 F0.kp b0 pass0 (pa_cons (pv 0) (pa_nil)))) (pss_cons (ps_if (pt_cmpR op_notN (pv 1) (pe_non) (nomark _)) (pss_cons (ps_ret (pe_tup (pa_cons (pe_str) (pa_cons (pv 1) (pa_nil))))) (pss_nil)) (pss_nil)) (pss_cons (ps_set (i := 2) sc.nd rfl (by first | exact Or.inl rfl | exact Or.inr rfl) (pe_cG G1 (hr.mono (by decide)) gd rfl m1 F1.kp b1 pass0 (pa_cons (pv 0) (pa_cons (pe_int) (pa_nil))))) (pss_cons (ps_if (pt_cmpR op_eq (pv 2) (pe_op op_mulX (pe_int) (pv 0)) (nomark _)) (pss_cons (ps_dead) (pss_nil)) (pss_nil)) (pss_cons (ps_ret (pe_tup (pa_cons (pe_str) (pa_cons (pv 2) (pa_nil))))) (pss_nil))))), ?_⟩
    refine q_set (fun v => [some (.int p_number), some v, none]) (fun _ => rfl) w0 p0 (Ev.eta (e_call (E := E0) (fm := fm_perfect_exponent) (R := (rO rI)) (a_one (e_var (R := rI) rfl rfl)))) hm0 ?_
    intro p1 vp9 S2 H3 s4 w5 p6 g8 rp10 hm7
    refine q_if w5 p6 (t_Test (e_notN (e_var rfl rp10))) hm7 ?_ ?_
    · intro S11 H12 s13 w14 p15 g16 hm17
      have rp10 := Mo.mo g16.s rp10
      refine q_ret w14 p15 (e_tup (K := K) (a_cons e_cS (a_one (Ev.unO (e_var rfl rp10)))) (arN_cons arN_one) (by decide)) hm17 ?_
      intro r25 v26 S18 H19 s20 w21 p22 g24 rr27 hm23
      cases run_of_pure hm23
      exact fin _ ⟨S18, w21.g, p22, rr27⟩
    · intro S29 H30 s31 w32 p33 g34 hm35
      have rp10 := Mo.mo g34.s rp10
      refine nx_done ?_
      refine q_set (fun v => [some (.int p_number), some vp9, some v]) (fun _ => rfl) w32 p33 (Ev.eta (e_call (E := E0) (fm := fm_divisor_sum) (R := rI) (a_cons (e_var (R := rI) rfl rfl) (a_one e_cI)))) hm35 ?_
      intro total36 vtotal44 S37 H38 s39 w40 p41 g43 rtotal45 hm42
      cases (show vtotal44 = .int total36 from rtotal45)
      have rp10 := Mo.mo g43.s rp10
      refine q_if w40 p41 (t_Test (e_eq (e_var (R := rI) rfl rfl) (e_mul e_cI (e_var (R := rI) rfl rfl)))) hm42 ?_ ?_
      · intro S46 H47 s48 w49 p50 g51 hm52
        have rp10 := Mo.mo g51.s rp10
        exact q_dead hm52
      · intro S53 H54 s55 w56 p57 g58 hm59
        have rp10 := Mo.mo g58.s rp10
        refine nx_done ?_
        refine q_ret w56 p57 (e_tup (K := K) (a_cons e_cS (a_one (e_var (R := rI) rfl rfl))) (arN_cons arN_one) (by decide)) hm59 ?_
        intro r67 v68 S60 H61 s62 w63 p64 g66 rr69 hm65
        cases run_of_pure hm65
        exact fin _ ⟨S60, w63.g, p64, rr69⟩
end
abbrev t_perfect_paper_error : Stmt := top 24
theorem sc_perfect_paper_error : FnScope ["number", "value", "word", "own"] ["number", "value"] (defScope t_perfect_paper_error) := ⟨rfl, rfl, rfl, by decide +kernel, rfl, by decide +kernel, by decide +kernel⟩
@[irreducible] noncomputable def m_perfect_paper_error (p_number : Int) (p_value : (Str × Int)) : Option (Option Str) :=
(if (!true) = true then pure true else (if (!decide ((2 : Int) = (2 : Int))) = true then pure true else (if (!true) = true then pure true else Mir.lft (m_is_integer (p_value.2)) >>= fun r170 => pure (!r170)) >>= fun b169 => pure b169) >>= fun b168 => pure b168) >>= fun b167 => if b167 = true then
(bnd (some ("form" : Str)) fun r15 => pure r15)
else
(bnd p_value fun t25 =>
if (decide (t25.1 = ("even" : Str))) = true then
(if (!((decide ((2 : Int) ≤ t25.2)) && (decide (t25.2 ≤ (607 : Int))))) = true then
(bnd (some ("exponent" : Str)) fun r55 => pure r55)
else
(Mir.lft (m_two_less_is_prime t25.2) >>= fun r100 => if (!r100) = true then
(bnd (some ("prime" : Str)) fun r79 => pure r79)
else
(Mir.lft (m_even_perfect t25.2) >>= fun r99 => bnd (if (!decide (r99 = p_number)) = true then (some ("number" : Str)) else none) fun r96 => pure r96)))
else
(if (!decide (t25.1 = ("sum" : Str))) = true then
(bnd (some ("form" : Str)) fun r122 => pure r122)
else
(Mir.lft (m_divisor_sum p_number (1 : Int)) >>= fun r166 => if (!decide (r166 = t25.2)) = true then
(bnd (some ("sum" : Str)) fun r146 => pure r146)
else
(Mir.lft (grd (Sm (2 : Int) ∧ Sm p_number)) >>= fun _ => bnd (if (decide (t25.2 = ((2 : Int) * p_number))) = true then (some ("perfect" : Str)) else none) fun r163 => pure r163))))
noncomputable abbrev fm_perfect_paper_error : (Int × (Str × Int)) → Option (Option Str) := fun (a0, a1) => m_perfect_paper_error a0 a1
abbrev sp_perfect_paper_error (K : PySem.W.Frag) : Sp := spV F0 fm_perfect_paper_error (fun _ => (aCons rI (aOne (rT K (aCons rS (aOne rI)))))) (rO rS)
section
variable {P : Program} {w : World} {K : PySem.W.Frag} {mg : Str → Option Value} {base : Heap}
theorem g_perfect_paper_error (T : Tx mg base) (D0 : Dk P w K mg base "is_integer" "is_integer" t_is_integer 1 ["value"] (sp_is_integer K)) (D1 : Dk P w K mg base "two_less_is_prime" "two_less_is_prime" t_two_less_is_prime 4 ["p"] (sp_two_less_is_prime K)) (D2 : Dk P w K mg base "even_perfect" "even_perfect" t_even_perfect 5 ["p"] (sp_even_perfect K)) (D3 : Dk P w K mg base "divisor_sum" "divisor_sum" t_divisor_sum 5 ["number", "k"] (sp_divisor_sum K)) {f : Addr} {fd : FuncData} (F : Fun K "perfect_paper_error" "perfect_paper_error" t_perfect_paper_error f fd) : FnG P w K mg base CX0 6 f fd ["number", "value"] (sp_perfect_paper_error K) := by
  obtain ⟨f0, fd0, F0, m0, G0, b0⟩ := D0
  obtain ⟨f1, fd1, F1, m1, G1, b1⟩ := D1
  obtain ⟨f2, fd2, F2, m2, G2, b2⟩ := D2
  obtain ⟨f3, fd3, F3, m3, G3, b3⟩ := D3
  refine okG0 F sc_perfect_paper_error (fun vs H Q E h => ?_) (fun cdv A outer s0_ H0 vs Q E hr gd h => ?_)
  · obtain ⟨_, _, _, _, _, _, _, _, ⟨_, _, rfl, _, ⟨_, rfl, _⟩⟩, _⟩ := h
    rfl
  · obtain ⟨_, a, S0, s0, r, s', e0, p0, ⟨_, _, rfl, rfl, ⟨v_value, rfl, r_value⟩⟩, hm0, fin0⟩ := h
    obtain ⟨p_number, p_value⟩ := a
    have fin : ∀ v {H' : Hp}, (∃ S', Gm (pt0).M S0 H0 S' H' ∧ PotAt pt0 s' S' H' ∧ (rO rS) r v S') → Q v H' := fun v {H'} ⟨S', h1, h2, h3⟩ => fin0 v S' H' h1 h2 h3
    have w0 : Wd pt0 S0 H0 S0 H0 [] := Wd.start e0
    have hm0 : Mir.run (m_perfect_paper_error p_number p_value) s0 = some (r, s') := hm0
    unfold m_perfect_paper_error at hm0
    have sc := sc_perfect_paper_error
    refine ⟨_, pss_cons (ps_if (PW.pt (pw_or (pt_not (pt_val (pe_callB (k_isi K) (by rfl) T.n_isinstance (by decide +kernel) (pa_cons (pv 1) (pa_cons (pe_bltn (v := .ty "tuple") (u := .type "tuple") rfl T.n_tuple (by decide +kernel) rfl) pa_nil))))) (pw_or (pt_cmpR op_ne (pe_callB (k_len K) (by rfl) T.n_len (by decide +kernel) (pa_cons (pv 1) pa_nil)) (pe_int) (nomark _)) (pw_or (pt_not (pt_val (pe_callB (k_isi K) (by rfl) T.n_isinstance (by decide +kernel) (pa_cons (pe_ix (k_ixT K) (pv 1) (pe_int) (fun _ _ => rfl)) (pa_cons (pe_bltn (v := .ty "str") (u := .type "str") rfl T.n_str (by decide +kernel) rfl) pa_nil))))) (pw_or1 (pt_not (pt_val (pe_cG G0 (hr.mono (by decide)) gd rfl m0 F0.kp b0 pass0 (pa_cons (pe_ix (k_ixT K) (pv 1) (pe_int) (fun _ _ => rfl)) (pa_nil)))))))))) (pss_cons (ps_ret (pe_str)) (pss_nil)) (pss_nil)) (pss_cons (ps_asg (pv 1) (k_gt K (pgs_cons (pg_name (i := 2) sc.nd rfl (by first | exact Or.inl rfl | exact Or.inr rfl)) (pgs_cons (pg_name (i := 3) sc.nd rfl (by first | exact Or.inl rfl | exact Or.inr rfl)) (pgs_nil))))) (pss_cons (ps_if (pt_cmpR op_eq (pv 2) (pe_str) (nomark _)) (pss_cons (ps_if (pt_not (pt_chain op_le op_le (pe_int) (pv 3) (pe_glob (v := .int 607) rfl T.c_MAX_EXPONENT.choose_spec ⟨_, rfl⟩))) (pss_cons (ps_ret (pe_str)) (pss_nil)) (pss_nil)) (pss_cons (ps_if (pt_not (pt_val (pe_cG G1 (hr.mono (by decide)) gd rfl m1 F1.kp b1 pass0 (pa_cons (pv 3) (pa_nil))))) (pss_cons (ps_ret (pe_str)) (pss_nil)) (pss_nil)) (pss_cons (ps_ret (pe_ifExp (pt_cmpR op_ne (pe_cG G2 (hr.mono (by decide)) gd rfl m2 F2.kp b2 pass0 (pa_cons (pv 3) (pa_nil))) (pv 0) (nomark _)) (pe_str) (pe_non))) (pss_nil)))) (pss_nil)) (pss_cons (ps_if (pt_cmpR op_ne (pv 2) (pe_str) (nomark _)) (pss_cons (ps_ret (pe_str)) (pss_nil)) (pss_nil)) (pss_cons (ps_if (pt_cmpR op_ne (pe_cG G3 (hr.mono (by decide)) gd rfl m3 F3.kp b3 pass0 (pa_cons (pv 0) (pa_cons (pe_int) (pa_nil)))) (pv 3) (nomark _)) (pss_cons (ps_ret (pe_str)) (pss_nil)) (pss_nil)) (pss_cons (ps_ret (pe_ifExp (pt_cmpR op_eq (pv 3) (pe_op op_mulX (pe_int) (pv 0)) (nomark _)) (pe_str) (pe_non))) (pss_nil)))))), ?_⟩
    refine q_if w0 p0 (t_or (t_not (t_B (c_isi (K := K) (U := "tuple") (b := true) (e_var rfl r_value) ty_T (kit_ty (by decide +kernel))))) (t_or (t_Test (e_ne (c_lenN (n := 2) (e_var rfl r_value) (arL_cons arL_one)) e_cI)) (t_or (t_not (t_B (c_isi (K := K) (U := "str") (b := true) (e_ixC (n := 0) (mB := fun k => k 0) (A := (aCons rS (aOne rI))) (R := rS) (f := fun a => a.1) (e_var rfl r_value) rfl (fun a vs S h => by obtain ⟨_, _, rfl, h0, ⟨_, rfl, h1⟩⟩ := h; exact ⟨_, rfl, h0⟩)) ty_S (kit_ty (by decide +kernel))))) (t_not (t_B (Ev.eta (e_call (E := E0) (fm := fm_is_integer) (R := rB) (a_one (e_ixC (n := 1) (mB := fun k => k 1) (A := (aCons rS (aOne rI))) (R := rI) (f := fun a => a.2) (e_var rfl r_value) rfl (fun a vs S h => by obtain ⟨_, _, rfl, h0, ⟨_, rfl, h1⟩⟩ := h; exact ⟨_, rfl, h1⟩)))))))))) hm0 ?_ ?_
    · intro S1 H2 s3 w4 p5 g6 hm7
      have r_value := Mo.mo g6.s r_value
      refine q_ret w4 p5 (Ev.some e_cS) hm7 ?_
      intro r15 v16 S8 H9 s10 w11 p12 g14 rr17 hm13
      cases run_of_pure hm13
      exact fin _ ⟨S8, w11.g, p12, rr17⟩
    · intro S18 H19 s20 w21 p22 g23 hm24
      have r_value := Mo.mo g23.s r_value
      refine nx_done ?_
      refine q_unp w21 p22 (e_var rfl r_value) (g_tp (gq_cons (g_nm (R := rS)) (gq_one (g_nm (R := rI))))) hm24 ?_
      intro t25 σ33 S26 H27 s28 w29 p30 g32 hp hm31
      have r_value := Mo.mo g32.s r_value
      obtain ⟨_, ⟨_, rfl, rfl⟩, ⟨_, rfl, rfl⟩⟩ := hp
      refine q_if w29 p30 (t_Test (e_eq (e_var (R := rS) rfl rfl) e_cS)) hm31 ?_ ?_
      · intro S34 H35 s36 w37 p38 g39 hm40
        have r_value := Mo.mo g39.s r_value
        refine q_if w37 p38 (t_not (t_Test (e_chainT ci_le ci_le e_cI (e_var (R := rI) rfl rfl) e_cI))) hm40 ?_ ?_
        · intro S41 H42 s43 w44 p45 g46 hm47
          have r_value := Mo.mo g46.s r_value
          refine q_ret w44 p45 (Ev.some e_cS) hm47 ?_
          intro r55 v56 S48 H49 s50 w51 p52 g54 rr57 hm53
          cases run_of_pure hm53
          exact fin _ ⟨S48, w51.g, p52, rr57⟩
        · intro S58 H59 s60 w61 p62 g63 hm64
          have r_value := Mo.mo g63.s r_value
          refine nx_done ?_
          refine q_if w61 p62 (t_not (t_B (Ev.eta (e_call (E := E0) (fm := fm_two_less_is_prime) (R := rB) (a_one (e_var (R := rI) rfl rfl)))))) hm64 ?_ ?_
          · intro S65 H66 s67 w68 p69 g70 hm71
            have r_value := Mo.mo g70.s r_value
            refine q_ret w68 p69 (Ev.some e_cS) hm71 ?_
            intro r79 v80 S72 H73 s74 w75 p76 g78 rr81 hm77
            cases run_of_pure hm77
            exact fin _ ⟨S72, w75.g, p76, rr81⟩
          · intro S82 H83 s84 w85 p86 g87 hm88
            have r_value := Mo.mo g87.s r_value
            refine nx_done ?_
            refine q_ret w85 p86 (e_ifT (R := (rO rS)) (t_Test (e_ne (Ev.eta (e_call (E := E0) (fm := fm_even_perfect) (R := rI) (a_one (e_var (R := rI) rfl rfl)))) (e_var (R := rI) rfl rfl))) (Ev.some e_cS) (Ev.none (R := rS) e_cN)) hm88 ?_
            intro r96 v97 S89 H90 s91 w92 p93 g95 rr98 hm94
            cases run_of_pure hm94
            exact fin _ ⟨S89, w92.g, p93, rr98⟩
      · intro S101 H102 s103 w104 p105 g106 hm107
        have r_value := Mo.mo g106.s r_value
        refine nx_done ?_
        refine q_if w104 p105 (t_Test (e_ne (e_var (R := rS) rfl rfl) e_cS)) hm107 ?_ ?_
        · intro S108 H109 s110 w111 p112 g113 hm114
          have r_value := Mo.mo g113.s r_value
          refine q_ret w111 p112 (Ev.some e_cS) hm114 ?_
          intro r122 v123 S115 H116 s117 w118 p119 g121 rr124 hm120
          cases run_of_pure hm120
          exact fin _ ⟨S115, w118.g, p119, rr124⟩
        · intro S125 H126 s127 w128 p129 g130 hm131
          have r_value := Mo.mo g130.s r_value
          refine nx_done ?_
          refine q_if w128 p129 (t_Test (e_ne (Ev.eta (e_call (E := E0) (fm := fm_divisor_sum) (R := rI) (a_cons (e_var (R := rI) rfl rfl) (a_one e_cI)))) (e_var (R := rI) rfl rfl))) hm131 ?_ ?_
          · intro S132 H133 s134 w135 p136 g137 hm138
            have r_value := Mo.mo g137.s r_value
            refine q_ret w135 p136 (Ev.some e_cS) hm138 ?_
            intro r146 v147 S139 H140 s141 w142 p143 g145 rr148 hm144
            cases run_of_pure hm144
            exact fin _ ⟨S139, w142.g, p143, rr148⟩
          · intro S149 H150 s151 w152 p153 g154 hm155
            have r_value := Mo.mo g154.s r_value
            refine nx_done ?_
            refine q_ret w152 p153 (e_ifT (R := (rO rS)) (t_Test (e_eq (e_var (R := rI) rfl rfl) (e_mul e_cI (e_var (R := rI) rfl rfl)))) (Ev.some e_cS) (Ev.none (R := rS) e_cN)) hm155 ?_
            intro r163 v164 S156 H157 s158 w159 p160 g162 rr165 hm161
            cases run_of_pure hm161
            exact fin _ ⟨S156, w159.g, p160, rr165⟩
end
abbrev t_common_divisor : Stmt := top 26
theorem sc_common_divisor : FnScope ["one", "other"] ["one", "other"] (defScope t_common_divisor) := ⟨rfl, rfl, rfl, by decide +kernel, rfl, by decide +kernel, by decide +kernel⟩
@[irreducible] noncomputable def m_common_divisor (p_one : Int) (p_other : Int) : Option Int :=
(whS many (fun (st1 : Int × Int) k => k (decide ((0 : Int) < st1.2))) (fun (st1 : Int × Int) =>
bnd st1.2 fun one32 =>
Mir.lft (grd (0 < st1.2)) >>= fun _ => bnd (st1.1 % st1.2) fun other42 =>
pure (one32, other42)) (p_one, p_other)) >>= fun (st1 : Int × Int) =>
bnd st1.1 fun r66 => pure r66
noncomputable abbrev fm_common_divisor : (Int × Int) → Option Int := fun (a0, a1) => m_common_divisor a0 a1
abbrev sp_common_divisor (K : PySem.W.Frag) : Sp := spV F0 fm_common_divisor (fun _ => (aCons rI (aOne rI))) rI
section
variable {P : Program} {w : World} {K : PySem.W.Frag} {mg : Str → Option Value} {base : Heap}
theorem g_common_divisor (T : Tx mg base)  {f : Addr} {fd : FuncData} (F : Fun K "common_divisor" "common_divisor" t_common_divisor f fd) : FnG P w K mg base CX0 1 f fd ["one", "other"] (sp_common_divisor K) := by
  refine okG0 F sc_common_divisor (fun vs H Q E h => ?_) (fun cdv A outer s0_ H0 vs Q E hr gd h => ?_)
  · obtain ⟨_, _, _, _, _, _, _, _, ⟨_, _, rfl, _, ⟨_, rfl, _⟩⟩, _⟩ := h
    rfl
  · obtain ⟨_, a, S0, s0, r, s', e0, p0, ⟨_, _, rfl, rfl, ⟨_, rfl, rfl⟩⟩, hm0, fin0⟩ := h
    obtain ⟨p_one, p_other⟩ := a
    have fin : ∀ v {H' : Hp}, (∃ S', Gm (pt0).M S0 H0 S' H' ∧ PotAt pt0 s' S' H' ∧ rI r v S') → Q v H' := fun v {H'} ⟨S', h1, h2, h3⟩ => fin0 v S' H' h1 h2 h3
    have w0 : Wd pt0 S0 H0 S0 H0 [] := Wd.start e0
    have hm0 : Mir.run (m_common_divisor p_one p_other) s0 = some (r, s') := hm0
    unfold m_common_divisor at hm0
    have sc := sc_common_divisor
    refine ⟨_, pss_cons (ps_while PassesOwn.never (pt_cmpR op_gt (pv 1) (pe_int) (nomark _)) (pss_cons (ps_par (i := 0) (j := 1) rfl sc.nd rfl rfl (by decide) rfl rfl (pa_cons (pv 1) (pa_cons (pe_op op_mod (pv 0) (pv 1)) (pa_nil))) (by rfl)) (pss_nil))) (pss_cons (ps_ret (pv 0)) (pss_nil)), ?_⟩
    refine q_wh (p := pt0) (fun st1 σ S' H' s' => σ = [some (.int st1.1), some (.int st1.2)] ∧ Wd pt0 S0 H0 S' H' [] ∧ PotAt pt0 s' S' H' ∧ Ex S0 S') ⟨rfl, w0, p0, Ex.rf⟩ hm0 ?_ ?_ ?_ ?_
    · rintro st1 _ S7 H8 s9 ⟨rfl, w4, p5, eb6⟩
      exact ⟨p5, w4.i, (t_Test (e_gt (e_var (R := rI) rfl rfl) e_cI))⟩
    · rintro st1 _ S13 H14 s15 S16 H17 s18 ⟨rfl, w10, p11, eb12⟩ g19 p20
      exact ⟨rfl, w10.go g19, p20, eb12.tr g19.s⟩
    · rintro st1 _ S24 H25 s26 st1_ s2_ D_ ⟨rfl, w21, p22, eb23⟩ hm27 nx28
      refine par_go ?_
      refine x_ev w21 p22 (e_var (R := rI) rfl rfl) hm27 ?_
      intro one32 vone40 S33 H34 s35 w36 p37 g39 rone41 hm38
      cases (show vone40 = .int one32 from rone41)
      have eb23 := eb23.tr g39.s
      refine x_ev w36 p37 (e_mod (e_var (R := rI) rfl rfl) (e_var (R := rI) rfl rfl)) hm38 ?_
      intro other42 vother50 S43 H44 s45 w46 p47 g49 rother51 hm48
      cases (show vother50 = .int other42 from rother51)
      have eb23 := eb23.tr g49.s
      refine par_end [some (.int one32), some (.int other42)] rfl ?_
      cases run_of_pure hm48
      exact (nx28 _ _ _ ⟨rfl, w46, p47, eb23⟩).1
    · rintro st1 _ S55 H56 s57 ⟨rfl, w52, p53, eb54⟩ hm58
      refine q_ret w52 p53 (e_var (R := rI) rfl rfl) hm58 ?_
      intro r66 v67 S59 H60 s61 w62 p63 g65 rr68 hm64
      cases run_of_pure hm64
      exact fin _ ⟨S59, w62.g, p63, rr68⟩
end
abbrev t_odd_parts : Stmt := top 28
theorem sc_odd_parts : FnScope ["number", "odd", "root", "p", "often"] ["number"] (defScope t_odd_parts) := ⟨rfl, rfl, rfl, by decide +kernel, rfl, by decide +kernel, by decide +kernel⟩
@[irreducible] noncomputable def m_odd_parts (p_number : Int) : Option (Option (Int × Int × Int)) :=
Mir.lft (grd (List.length ([] : List (Int × Int)) ≤ 16000000)) >>= fun _ => bnd ([] : List (Int × Int)) fun odd1 =>
bnd (1 : Int) fun root12 =>
Mir.lft (m_primes_of p_number) >>= fun r161 => (lpS r161 (fun (x24 : (Int × Int)) (st22 : (List (Int × Int)) × Int) =>
Mir.lft (grd (0 < (2 : Int))) >>= fun _ => if (decide ((x24.2 % (2 : Int)) = (1 : Int))) = true then
(Mir.lft (grd (List.length st22.1 < 16000000)) >>= fun _ => bnd (st22.1 ++ [(x24.1, x24.2)]) fun odd82 =>
pure (odd82, st22.2))
else
(Mir.lft (grd (Dv (2 : Int))) >>= fun _ => Mir.lft (m_power_of x24.1 (x24.2 / (2 : Int))) >>= fun r109 => Mir.lft (grd (Sm st22.2 ∧ Sm r109)) >>= fun _ => bnd (st22.2 * r109) fun root99 =>
pure (st22.1, root99))) (odd1, root12)) >>= fun (st22 : (List (Int × Int)) × Int) =>
(if (!decide ((List.length st22.1 : Int) = (1 : Int))) = true then pure true else Mir.lft (L2.atI st22.1 (0 : Int)) >>= fun y159 => Mir.lft (grd (0 < (4 : Int))) >>= fun _ => (if (!decide (((y159.1) % (4 : Int)) = (1 : Int))) = true then pure true else Mir.lft (L2.atI st22.1 (0 : Int)) >>= fun y160 => Mir.lft (grd (0 < (4 : Int))) >>= fun _ => pure (!decide (((y160.2) % (4 : Int)) = (1 : Int)))) >>= fun b158 => pure b158) >>= fun b157 => if b157 = true then
(bnd none fun r136 => pure r136)
else
(Mir.lft (L2.atI st22.1 (0 : Int)) >>= fun y156 => bnd (some (y156.1, y156.2, st22.2)) fun r153 => pure r153)
noncomputable abbrev fm_odd_parts : (Int) → Option (Option (Int × Int × Int)) := fun a => m_odd_parts a
abbrev sp_odd_parts (K : PySem.W.Frag) : Sp := spV F0 fm_odd_parts (fun _ => (aOne rI)) (rO (rT K (aCons rI (aCons rI (aOne rI)))))
section
variable {P : Program} {w : World} {K : PySem.W.Frag} {mg : Str → Option Value} {base : Heap}
theorem g_odd_parts (T : Tx mg base) (D0 : Dk P w K mg base "primes_of" "primes_of" t_primes_of 4 ["number"] (sp_primes_of K)) (D1 : Dk P w K mg base "power_of" "power_of" t_power_of 1 ["base", "often"] (sp_power_of K)) {f : Addr} {fd : FuncData} (F : Fun K "odd_parts" "odd_parts" t_odd_parts f fd) : FnG P w K mg base CX0 5 f fd ["number"] (sp_odd_parts K) := by
  obtain ⟨f0, fd0, F0, m0, G0, b0⟩ := D0
  obtain ⟨f1, fd1, F1, m1, G1, b1⟩ := D1
  refine okG0 F sc_odd_parts (fun vs H Q E h => ?_) (fun cdv A outer s0_ H0 vs Q E hr gd h => ?_)
  · obtain ⟨_, _, _, _, _, _, _, _, ⟨_, rfl, _⟩, _⟩ := h
    rfl
  · obtain ⟨_, p_number, S0, s0, r, s', e0, p0, ⟨_, rfl, rfl⟩, hm0, fin0⟩ := h
    have fin : ∀ v {H' : Hp}, (∃ S', Gm (pt0).M S0 H0 S' H' ∧ PotAt pt0 s' S' H' ∧ (rO (rT K (aCons rI (aCons rI (aOne rI))))) r v S') → Q v H' := fun v {H'} ⟨S', h1, h2, h3⟩ => fin0 v S' H' h1 h2 h3
    have w0 : Wd pt0 S0 H0 S0 H0 [] := Wd.start e0
    have hm0 : Mir.run (m_odd_parts p_number) s0 = some (r, s') := hm0
    unfold m_odd_parts at hm0
    have sc := sc_odd_parts
    refine ⟨_, pss_cons (ps_par (i := 1) (j := 2) rfl sc.nd rfl rfl (by decide) rfl rfl (pa_cons (pe_lst (pa_nil)) (pa_cons (pe_int) (pa_nil))) (by rfl)) (pss_cons (ps_for PassesOwn.never rfl (k_pit K (pe_cG G0 (hr.mono (by decide)) gd rfl m0 F0.kp b0 pass0 (pa_cons (pv 0) (pa_nil)))) (k_gt K (pgs_cons (pg_name (i := 3) sc.nd rfl (by first | exact Or.inl rfl | exact Or.inr rfl)) (pgs_cons (pg_name (i := 4) sc.nd rfl (by first | exact Or.inl rfl | exact Or.inr rfl)) (pgs_nil)))) (pss_cons (ps_if (pt_cmpR op_eq (pe_op op_mod (pv 4) (pe_int)) (pe_int) (nomark _)) (pss_cons (ps_expr (pe_bm PySem.F.plainAttrs_list PySem.F.slot_list_append PySem.F.type_list_append mt_append (pv 1) (pa_cons (pe_tup (pa_cons (pv 3) (pa_cons (pv 4) (pa_nil)))) pa_nil))) (pss_nil)) (pss_cons (ps_set (i := 2) sc.nd rfl (by first | exact Or.inl rfl | exact Or.inr rfl) (pe_op op_mulX (pv 2) (pe_cG G1 (hr.mono (by decide)) gd rfl m1 F1.kp b1 pass0 (pa_cons (pv 3) (pa_cons (pe_op op_fdivW (pv 4) (pe_int)) (pa_nil)))))) (pss_nil))) (pss_nil))) (pss_cons (ps_if (PW.pt (pw_or (pt_cmpR op_ne (pe_callB (k_len K) (by rfl) T.n_len (by decide +kernel) (pa_cons (pv 1) pa_nil)) (pe_int) (nomark _)) (pw_or (pt_cmpR op_ne (pe_op op_mod (pe_ix (k_ixT K) (pe_ix (k_ixL K) (pv 1) (pe_int) (fun _ _ => rfl)) (pe_int) (fun _ _ => rfl)) (pe_int)) (pe_int) (nomark _)) (pw_or1 (pt_cmpR op_ne (pe_op op_mod (pe_ix (k_ixT K) (pe_ix (k_ixL K) (pv 1) (pe_int) (fun _ _ => rfl)) (pe_int) (fun _ _ => rfl)) (pe_int)) (pe_int) (nomark _)))))) (pss_cons (ps_ret (pe_non)) (pss_nil)) (pss_nil)) (pss_cons (ps_ret (pe_op (k_catT K) (pe_ix (k_ixL K) (pv 1) (pe_int) (fun _ _ => rfl)) (pe_tup (pa_cons (pv 2) (pa_nil))))) (pss_nil)))), ?_⟩
    refine par_go ?_
    refine x_evL w0 p0 (l_lstL (a_nilL (R := (rT K (aCons rI (aOne rI)))))) hm0 ?_
    intro odd1 q9 vs10 S2 H3 s4 w5 p6 g8 rodd11 hm7
    have rodd11 : All (rT K (aCons rI (aOne rI))) _ _ _ := rodd11
    refine x_ev w5 p6 e_cI hm7 ?_
    intro root12 vroot20 S13 H14 s15 w16 p17 g19 rroot21 hm18
    cases (show vroot20 = .int root12 from rroot21)
    have rodd11 := All.mo g19.s rodd11
    refine par_end [some (.int p_number), some (.ref q9), some (.int root12), none, none] rfl ?_
    refine q_for (p := pt0) w16 p17 (i_T (Ev.eta (e_call (E := E0) (fm := fm_primes_of) (R := (rT K (aAll (rT K (aCons rI (aOne rI)))))) (a_one (e_var (R := rI) rfl rfl))))) (g_tp (gq_cons (g_nm (R := rI)) (gq_one (g_nm (R := rI))))) hm18 (fun Sb23 st22 σ S' H' s' => Ex Sb23 S' ∧ (∃ (qodd_ : Addr) (usodd_ : List V) (xp_ : Option V) (xoften_ : Option V), σ = [some (.int p_number), some (.ref qodd_), some (.int st22.2), xp_, xoften_] ∧ Wd pt0 S0 H0 S' H' [(qodd_, .lst usodd_)] ∧ PotAt pt0 s' S' H' ∧ Ex S13 S' ∧ All (rT K (aCons rI (aOne rI))) S' st22.1 usodd_)) ?_ ?_ ?_ ?_ ?_
    · intro S25 H26 s27 w28 p29 g30
      have rodd11 := All.mo g30.s rodd11
      exact ⟨Ex.rf, ⟨_, _, _, _, rfl, w28, p29, g30.s, rodd11⟩⟩
    · rintro Sb23 st22 _ S39 H40 s41 ⟨ex42, ⟨qodd31, usodd32, xp33, xoften34, rfl, w36, p37, eb38, rodd35⟩⟩
      exact ⟨ex42, w36.i, p37, ownOk0⟩
    · rintro Sb23 st22 _ S51 H52 s53 S54 H55 ⟨ex57, ⟨qodd43, usodd44, xp45, xoften46, rfl, w48, p49, eb50, rodd47⟩⟩ g56
      exact ⟨ex57.tr g56.s, _, _, _, _, rfl, w48.go (Gm.up g56), PotAt.go p49 g56, eb50.tr g56.s, All.mo g56.s rodd47⟩
    · rintro Sb23 x24 st22 _ σ74 S66 H67 s68 st22_ s2_ D_ ⟨ex73, ⟨qodd58, usodd59, xp60, xoften61, rfl, w63, p64, eb65, rodd62⟩⟩ hp hm69 nx70
      obtain ⟨_, ⟨_, rfl, rfl⟩, ⟨_, rfl, rfl⟩⟩ := hp
      refine q_if w63 p64 (t_Test (e_eq (e_mod (e_var (R := rI) rfl rfl) e_cI) e_cI)) hm69 ?_ ?_
      · intro S75 H76 s77 w78 p79 g80 hm81
        have rodd62 := All.mo g80.s rodd62
        have eb65 := eb65.tr g80.s
        have ex73 := ex73.tr g80.s
        refine q_app (j := 0) w78 p79 rfl rfl rodd62 (e_tup (K := K) (a_cons (e_var (R := rI) rfl rfl) (a_one (e_var (R := rI) rfl rfl))) (arN_cons arN_one) (by decide)) hm81 ?_
        intro odd82 vs83 S85 H86 s87 w88 p89 e91 rodd84 hm90
        have eb65 := eb65.tr e91
        have ex73 := ex73.tr e91
        refine nx_done ?_
        cases run_of_pure hm90
        exact (nx70 _ _ _ ⟨ex73, ⟨_, _, _, _, rfl, w88, p89, eb65, rodd84⟩⟩).1
      · intro S92 H93 s94 w95 p96 g97 hm98
        have rodd62 := All.mo g97.s rodd62
        have eb65 := eb65.tr g97.s
        have ex73 := ex73.tr g97.s
        refine q_set (fun v => [some (.int p_number), some (.ref qodd58), some v, some (.int x24.1), some (.int x24.2)]) (fun _ => rfl) w95 p96 (e_mul (e_var (R := rI) rfl rfl) (Ev.eta (e_call (E := E0) (fm := fm_power_of) (R := rI) (a_cons (e_var (R := rI) rfl rfl) (a_one (e_fdiv (e_var (R := rI) rfl rfl) e_cI)))))) hm98 ?_
        intro root99 vroot107 S100 H101 s102 w103 p104 g106 rroot108 hm105
        cases (show vroot107 = .int root99 from rroot108)
        have rodd62 := All.mo g106.s rodd62
        have eb65 := eb65.tr g106.s
        have ex73 := ex73.tr g106.s
        refine nx_done ?_
        cases run_of_pure hm105
        exact (nx70 _ _ _ ⟨ex73, ⟨_, _, _, _, rfl, w103, p104, eb65, rodd62⟩⟩).1
    · rintro Sb23 st22 _ S118 H119 s120 ⟨_, ⟨qodd110, usodd111, xp112, xoften113, rfl, w115, p116, eb117, rodd114⟩⟩ hm121
      refine q_if w115 p116 (t_or (t_Test (e_ne (c_lenL (w_own (A := (aAll (rT K (aCons rI (aOne rI))))) (j := 0) w115 rfl rfl rodd114)) e_cI)) (t_or (t_Test (e_ne (e_mod (e_ixC (n := 0) (mB := fun k => k 0) (A := (aCons rI (aOne rI))) (R := rI) (f := fun a => a.1) (e_ixL (w_own (A := (aAll (rT K (aCons rI (aOne rI))))) (j := 0) w115 rfl rfl rodd114) e_cI) rfl (fun a vs S h => by obtain ⟨_, _, rfl, h0, ⟨_, rfl, h1⟩⟩ := h; exact ⟨_, rfl, h0⟩)) e_cI) e_cI)) (t_Test (e_ne (e_mod (e_ixC (n := 1) (mB := fun k => k 1) (A := (aCons rI (aOne rI))) (R := rI) (f := fun a => a.2) (e_ixL (w_own (A := (aAll (rT K (aCons rI (aOne rI))))) (j := 0) w115 rfl rfl rodd114) e_cI) rfl (fun a vs S h => by obtain ⟨_, _, rfl, h0, ⟨_, rfl, h1⟩⟩ := h; exact ⟨_, rfl, h1⟩)) e_cI) e_cI)))) hm121 ?_ ?_
      · intro S122 H123 s124 w125 p126 g127 hm128
        have rodd114 := All.mo g127.s rodd114
        refine q_ret w125 p126 (Ev.none (R := (rT K (aCons rI (aCons rI (aOne rI))))) e_cN) hm128 ?_
        intro r136 v137 S129 H130 s131 w132 p133 g135 rr138 hm134
        cases run_of_pure hm134
        exact fin _ ⟨S129, w132.g, p133, rr138⟩
      · intro S139 H140 s141 w142 p143 g144 hm145
        have rodd114 := All.mo g144.s rodd114
        refine nx_done ?_
        refine q_ret w142 p143 (Ev.some (e_catT (K := K) (A := (aCons rI (aOne rI))) (B := (aOne rI)) (C := (aCons rI (aCons rI (aOne rI)))) (fun a b => (a.1, a.2, b)) 3 (e_ixL (w_own (A := (aAll (rT K (aCons rI (aOne rI))))) (j := 0) w142 rfl rfl rodd114) e_cI) (e_tup (K := K) (a_one (e_var (R := rI) rfl rfl)) arN_one (by decide)) (fun a b vs ws S h h' => by obtain ⟨_, _, rfl, h0, ⟨_, rfl, h1⟩⟩ := h; obtain ⟨_, rfl, g0⟩ := h'; exact ⟨⟨_, _, rfl, h0, ⟨_, _, rfl, h1, ⟨_, rfl, g0⟩⟩⟩, Nat.le_refl _⟩) (by decide))) hm145 ?_
        intro r153 v154 S146 H147 s148 w149 p150 g152 rr155 hm151
        cases run_of_pure hm151
        exact fin _ ⟨S146, w149.g, p150, rr155⟩
end
abbrev t_reach_of : Stmt := top 29
theorem sc_reach_of : FnScope ["number", "divisor", "above", "below", "p", "often"] ["number"] (defScope t_reach_of) := ⟨rfl, rfl, rfl, by decide +kernel, rfl, by decide +kernel, by decide +kernel⟩
@[irreducible] noncomputable def m_reach_of (p_number : Int) : Option (Int × Int) :=
bnd (1 : Int) fun above1 =>
bnd (1 : Int) fun below11 =>
Mir.lft (m_primes_of p_number) >>= fun r120 => (lpS r120 (fun (x28 : (Int × Int)) (st26 : Int × Int) =>
Mir.lft (grd (Sm st26.1 ∧ Sm x28.1)) >>= fun _ => bnd (st26.1 * x28.1) fun above70 =>
Mir.lft (grd (Sm st26.2 ∧ Sm (x28.1 - (1 : Int)))) >>= fun _ => bnd (st26.2 * (x28.1 - (1 : Int))) fun below80 =>
pure (above70, below80)) (above1, below11)) >>= fun (st26 : Int × Int) =>
Mir.lft (m_common_divisor st26.1 st26.2) >>= fun r119 => bnd r119 fun divisor99 =>
Mir.lft (grd (Dv divisor99)) >>= fun _ => Mir.lft (grd (Dv divisor99)) >>= fun _ => bnd ((st26.1 / divisor99), (st26.2 / divisor99)) fun r116 => pure r116
noncomputable abbrev fm_reach_of : (Int) → Option (Int × Int) := fun a => m_reach_of a
abbrev sp_reach_of (K : PySem.W.Frag) : Sp := spV F0 fm_reach_of (fun _ => (aOne rI)) (rT K (aCons rI (aOne rI)))
section
variable {P : Program} {w : World} {K : PySem.W.Frag} {mg : Str → Option Value} {base : Heap}
theorem g_reach_of (T : Tx mg base) (D0 : Dk P w K mg base "primes_of" "primes_of" t_primes_of 4 ["number"] (sp_primes_of K)) (D1 : Dk P w K mg base "common_divisor" "common_divisor" t_common_divisor 1 ["one", "other"] (sp_common_divisor K)) {f : Addr} {fd : FuncData} (F : Fun K "reach_of" "reach_of" t_reach_of f fd) : FnG P w K mg base CX0 5 f fd ["number"] (sp_reach_of K) := by
  obtain ⟨f0, fd0, F0, m0, G0, b0⟩ := D0
  obtain ⟨f1, fd1, F1, m1, G1, b1⟩ := D1
  refine okG0 F sc_reach_of (fun vs H Q E h => ?_) (fun cdv A outer s0_ H0 vs Q E hr gd h => ?_)
  · obtain ⟨_, _, _, _, _, _, _, _, ⟨_, rfl, _⟩, _⟩ := h
    rfl
  · obtain ⟨_, p_number, S0, s0, r, s', e0, p0, ⟨_, rfl, rfl⟩, hm0, fin0⟩ := h
    have fin : ∀ v {H' : Hp}, (∃ S', Gm (pt0).M S0 H0 S' H' ∧ PotAt pt0 s' S' H' ∧ (rT K (aCons rI (aOne rI))) r v S') → Q v H' := fun v {H'} ⟨S', h1, h2, h3⟩ => fin0 v S' H' h1 h2 h3
    have w0 : Wd pt0 S0 H0 S0 H0 [] := Wd.start e0
    have hm0 : Mir.run (m_reach_of p_number) s0 = some (r, s') := hm0
    unfold m_reach_of at hm0
    have sc := sc_reach_of
    refine ⟨_, pss_cons (ps_asg (pe_tup (pa_cons (pe_int) (pa_cons (pe_int) (pa_nil)))) (k_gt K (pgs_cons (pg_name (i := 2) sc.nd rfl (by first | exact Or.inl rfl | exact Or.inr rfl)) (pgs_cons (pg_name (i := 3) sc.nd rfl (by first | exact Or.inl rfl | exact Or.inr rfl)) (pgs_nil))))) (pss_cons (ps_for PassesOwn.never rfl (k_pit K (pe_cG G0 (hr.mono (by decide)) gd rfl m0 F0.kp b0 pass0 (pa_cons (pv 0) (pa_nil)))) (k_gt K (pgs_cons (pg_name (i := 4) sc.nd rfl (by first | exact Or.inl rfl | exact Or.inr rfl)) (pgs_cons (pg_name (i := 5) sc.nd rfl (by first | exact Or.inl rfl | exact Or.inr rfl)) (pgs_nil)))) (pss_cons (ps_par (i := 2) (j := 3) rfl sc.nd rfl rfl (by decide) rfl rfl (pa_cons (pe_op op_mulX (pv 2) (pv 4)) (pa_cons (pe_op op_mulX (pv 3) (pe_op op_sub (pv 4) (pe_int))) (pa_nil))) (by rfl)) (pss_nil))) (pss_cons (ps_set (i := 1) sc.nd rfl (by first | exact Or.inl rfl | exact Or.inr rfl) (pe_cG G1 (hr.mono (by decide)) gd rfl m1 F1.kp b1 pass0 (pa_cons (pv 2) (pa_cons (pv 3) (pa_nil))))) (pss_cons (ps_ret (pe_tup (pa_cons (pe_op op_fdivW (pv 2) (pv 1)) (pa_cons (pe_op op_fdivW (pv 3) (pv 1)) (pa_nil))))) (pss_nil)))), ?_⟩
    refine tup2_go ?_
    refine x_ev w0 p0 e_cI hm0 ?_
    intro above1 vabove9 S2 H3 s4 w5 p6 g8 rabove10 hm7
    cases (show vabove9 = .int above1 from rabove10)
    refine x_ev w5 p6 e_cI hm7 ?_
    intro below11 vbelow19 S12 H13 s14 w15 p16 g18 rbelow20 hm17
    cases (show vbelow19 = .int below11 from rbelow20)
    refine tup_end (is := [2, 3]) [some (.int p_number), none, some (.int above1), some (.int below11), none, none] w15 p16 rfl (by simp) rfl ?_
    intro S21 H22 w23 p24 g25
    refine q_for (p := pt0) w23 p24 (i_T (Ev.eta (e_call (E := E0) (fm := fm_primes_of) (R := (rT K (aAll (rT K (aCons rI (aOne rI)))))) (a_one (e_var (R := rI) rfl rfl))))) (g_tp (gq_cons (g_nm (R := rI)) (gq_one (g_nm (R := rI))))) hm17 (fun Sb27 st26 σ S' H' s' => Ex Sb27 S' ∧ (∃ (xp_ : Option V) (xoften_ : Option V), σ = [some (.int p_number), none, some (.int st26.1), some (.int st26.2), xp_, xoften_] ∧ Wd pt0 S0 H0 S' H' [] ∧ PotAt pt0 s' S' H' ∧ Ex S21 S')) ?_ ?_ ?_ ?_ ?_
    · intro S29 H30 s31 w32 p33 g34
      exact ⟨Ex.rf, ⟨_, _, rfl, w32, p33, g34.s⟩⟩
    · rintro Sb27 st26 _ S40 H41 s42 ⟨ex43, ⟨xp35, xoften36, rfl, w37, p38, eb39⟩⟩
      exact ⟨ex43, w37.i, p38, ownOk0⟩
    · rintro Sb27 st26 _ S49 H50 s51 S52 H53 ⟨ex55, ⟨xp44, xoften45, rfl, w46, p47, eb48⟩⟩ g54
      exact ⟨ex55.tr g54.s, _, _, rfl, w46.go (Gm.up g54), PotAt.go p47 g54, eb48.tr g54.s⟩
    · rintro Sb27 x28 st26 _ σ69 S61 H62 s63 st26_ s2_ D_ ⟨ex68, ⟨xp56, xoften57, rfl, w58, p59, eb60⟩⟩ hp hm64 nx65
      obtain ⟨_, ⟨_, rfl, rfl⟩, ⟨_, rfl, rfl⟩⟩ := hp
      refine par_go ?_
      refine x_ev w58 p59 (e_mul (e_var (R := rI) rfl rfl) (e_var (R := rI) rfl rfl)) hm64 ?_
      intro above70 vabove78 S71 H72 s73 w74 p75 g77 rabove79 hm76
      cases (show vabove78 = .int above70 from rabove79)
      have eb60 := eb60.tr g77.s
      have ex68 := ex68.tr g77.s
      refine x_ev w74 p75 (e_mul (e_var (R := rI) rfl rfl) (e_sub (e_var (R := rI) rfl rfl) e_cI)) hm76 ?_
      intro below80 vbelow88 S81 H82 s83 w84 p85 g87 rbelow89 hm86
      cases (show vbelow88 = .int below80 from rbelow89)
      have eb60 := eb60.tr g87.s
      have ex68 := ex68.tr g87.s
      refine par_end [some (.int p_number), none, some (.int above70), some (.int below80), some (.int x28.1), some (.int x28.2)] rfl ?_
      cases run_of_pure hm86
      exact (nx65 _ _ _ ⟨ex68, ⟨_, _, rfl, w84, p85, eb60⟩⟩).1
    · rintro Sb27 st26 _ S95 H96 s97 ⟨_, ⟨xp90, xoften91, rfl, w92, p93, eb94⟩⟩ hm98
      refine q_set (fun v => [some (.int p_number), some v, some (.int st26.1), some (.int st26.2), xp90, xoften91]) (fun _ => rfl) w92 p93 (Ev.eta (e_call (E := E0) (fm := fm_common_divisor) (R := rI) (a_cons (e_var (R := rI) rfl rfl) (a_one (e_var (R := rI) rfl rfl))))) hm98 ?_
      intro divisor99 vdivisor107 S100 H101 s102 w103 p104 g106 rdivisor108 hm105
      cases (show vdivisor107 = .int divisor99 from rdivisor108)
      refine q_ret w103 p104 (e_tup (K := K) (a_cons (e_fdiv (e_var (R := rI) rfl rfl) (e_var (R := rI) rfl rfl)) (a_one (e_fdiv (e_var (R := rI) rfl rfl) (e_var (R := rI) rfl rfl)))) (arN_cons arN_one) (by decide)) hm105 ?_
      intro r116 v117 S109 H110 s111 w112 p113 g115 rr118 hm114
      cases run_of_pure hm114
      exact fin _ ⟨S109, w112.g, p113, rr118⟩
end
abbrev t_odd_bar : Stmt := top 30
theorem sc_odd_bar : FnScope ["number", "rest", "many", "above", "below"] ["number"] (defScope t_odd_bar) := ⟨rfl, rfl, rfl, by decide +kernel, rfl, by decide +kernel, by decide +kernel⟩
@[irreducible] noncomputable def m_odd_bar (p_number : Int) : Option (Option (Str ⊕ ((Str × Int) ⊕ (Str × (Int × Int))))) :=
Mir.lft (m_odd_parts p_number) >>= fun r94 => if (Option.isNone r94) = true then
(bnd (some ((Sum.inl ("form" : Str)) : (Str ⊕ ((Str × Int) ⊕ (Str × (Int × Int)))))) fun r15 => pure r15)
else
(Mir.lft (grd (0 < (36 : Int))) >>= fun _ => Mir.lft (m_primes_of p_number) >>= fun r92 => Mir.lft (m_reach_of p_number) >>= fun r93 => bnd ((p_number % (36 : Int)), (List.length r92 : Int), r93) fun t25 =>
Mir.lft (grd (0 < (12 : Int))) >>= fun _ => if ((!decide ((t25.1 % (12 : Int)) = (1 : Int))) && (!decide (t25.1 = (9 : Int)))) = true then
(bnd (some ((Sum.inr ((Sum.inl (("rest" : Str), t25.1)) : ((Str × Int) ⊕ (Str × (Int × Int))))) : (Str ⊕ ((Str × Int) ⊕ (Str × (Int × Int)))))) fun r48 => pure r48)
else
(if (decide (t25.2.1 < (3 : Int))) = true then
(bnd (some ((Sum.inr ((Sum.inl (("primes" : Str), t25.2.1)) : ((Str × Int) ⊕ (Str × (Int × Int))))) : (Str ⊕ ((Str × Int) ⊕ (Str × (Int × Int)))))) fun r72 => pure r72)
else
(Mir.lft (grd (Sm (2 : Int) ∧ Sm t25.2.2.2)) >>= fun _ => bnd (if (decide (t25.2.2.1 ≤ ((2 : Int) * t25.2.2.2))) = true then (some ((Sum.inr ((Sum.inr (("reach" : Str), (t25.2.2.1, t25.2.2.2))) : ((Str × Int) ⊕ (Str × (Int × Int))))) : (Str ⊕ ((Str × Int) ⊕ (Str × (Int × Int)))))) else none) fun r89 => pure r89)))
noncomputable abbrev fm_odd_bar : (Int) → Option (Option (Str ⊕ ((Str × Int) ⊕ (Str × (Int × Int))))) := fun a => m_odd_bar a
abbrev sp_odd_bar (K : PySem.W.Frag) : Sp := spV F0 fm_odd_bar (fun _ => (aOne rI)) (rO (rU rS (rU (rT K (aCons rS (aOne rI))) (rT K (aCons rS (aOne (rT K (aCons rI (aOne rI)))))))))
section
variable {P : Program} {w : World} {K : PySem.W.Frag} {mg : Str → Option Value} {base : Heap}
theorem g_odd_bar (T : Tx mg base) (D0 : Dk P w K mg base "odd_parts" "odd_parts" t_odd_parts 5 ["number"] (sp_odd_parts K)) (D1 : Dk P w K mg base "primes_of" "primes_of" t_primes_of 4 ["number"] (sp_primes_of K)) (D2 : Dk P w K mg base "reach_of" "reach_of" t_reach_of 5 ["number"] (sp_reach_of K)) {f : Addr} {fd : FuncData} (F : Fun K "odd_bar" "odd_bar" t_odd_bar f fd) : FnG P w K mg base CX0 6 f fd ["number"] (sp_odd_bar K) := by
  obtain ⟨f0, fd0, F0, m0, G0, b0⟩ := D0
  obtain ⟨f1, fd1, F1, m1, G1, b1⟩ := D1
  obtain ⟨f2, fd2, F2, m2, G2, b2⟩ := D2
  refine okG0 F sc_odd_bar (fun vs H Q E h => ?_) (fun cdv A outer s0_ H0 vs Q E hr gd h => ?_)
  · obtain ⟨_, _, _, _, _, _, _, _, ⟨_, rfl, _⟩, _⟩ := h
    rfl
  · obtain ⟨_, p_number, S0, s0, r, s', e0, p0, ⟨_, rfl, rfl⟩, hm0, fin0⟩ := h
    have fin : ∀ v {H' : Hp}, (∃ S', Gm (pt0).M S0 H0 S' H' ∧ PotAt pt0 s' S' H' ∧ (rO (rU rS (rU (rT K (aCons rS (aOne rI))) (rT K (aCons rS (aOne (rT K (aCons rI (aOne rI))))))))) r v S') → Q v H' := fun v {H'} ⟨S', h1, h2, h3⟩ => fin0 v S' H' h1 h2 h3
    have w0 : Wd pt0 S0 H0 S0 H0 [] := Wd.start e0
    have hm0 : Mir.run (m_odd_bar p_number) s0 = some (r, s') := hm0
    unfold m_odd_bar at hm0
    have sc := sc_odd_bar
    refine ⟨_, pss_cons (ps_if (pt_cmpR op_isN (pe_cG G0 (hr.mono (by decide)) gd rfl m0 F0.kp b0 pass0 (pa_cons (pv 0) (pa_nil))) (pe_non) (nomark _)) (pss_cons (ps_ret (pe_str)) (pss_nil)) (pss_nil)) (pss_cons (ps_asg (pe_tup (pa_cons (pe_op op_mod (pv 0) (pe_int)) (pa_cons (pe_callB (k_len K) (by rfl) T.n_len (by decide +kernel) (pa_cons (pe_cG G1 (hr.mono (by decide)) gd rfl m1 F1.kp b1 pass0 (pa_cons (pv 0) (pa_nil))) pa_nil)) (pa_cons (pe_cG G2 (hr.mono (by decide)) gd rfl m2 F2.kp b2 pass0 (pa_cons (pv 0) (pa_nil))) (pa_nil))))) (k_gt K (pgs_cons (pg_name (i := 1) sc.nd rfl (by first | exact Or.inl rfl | exact Or.inr rfl)) (pgs_cons (pg_name (i := 2) sc.nd rfl (by first | exact Or.inl rfl | exact Or.inr rfl)) (pgs_cons (k_gt K (pgs_cons (pg_name (i := 3) sc.nd rfl (by first | exact Or.inl rfl | exact Or.inr rfl)) (pgs_cons (pg_name (i := 4) sc.nd rfl (by first | exact Or.inl rfl | exact Or.inr rfl)) (pgs_nil)))) (pgs_nil)))))) (pss_cons (ps_if (PW.pt (pw_and (pt_cmpR op_ne (pe_op op_mod (pv 1) (pe_int)) (pe_int) (nomark _)) (pw_and1 (pt_cmpR op_ne (pv 1) (pe_int) (nomark _))))) (pss_cons (ps_ret (pe_tup (pa_cons (pe_str) (pa_cons (pv 1) (pa_nil))))) (pss_nil)) (pss_nil)) (pss_cons (ps_if (pt_cmpR op_lt (pv 2) (pe_int) (nomark _)) (pss_cons (ps_ret (pe_tup (pa_cons (pe_str) (pa_cons (pv 2) (pa_nil))))) (pss_nil)) (pss_nil)) (pss_cons (ps_ret (pe_ifExp (pt_cmpR op_le (pv 3) (pe_op op_mulX (pe_int) (pv 4)) (nomark _)) (pe_tup (pa_cons (pe_str) (pa_cons (pe_tup (pa_cons (pv 3) (pa_cons (pv 4) (pa_nil)))) (pa_nil)))) (pe_non))) (pss_nil))))), ?_⟩
    refine q_if w0 p0 (t_Test (e_isN (Ev.eta (e_call (E := E0) (fm := fm_odd_parts) (R := (rO (rT K (aCons rI (aCons rI (aOne rI)))))) (a_one (e_var (R := rI) rfl rfl)))))) hm0 ?_ ?_
    · intro S1 H2 s3 w4 p5 g6 hm7
      refine q_ret w4 p5 (Ev.some (Ev.inl (R' := (rU (rT K (aCons rS (aOne rI))) (rT K (aCons rS (aOne (rT K (aCons rI (aOne rI)))))))) e_cS)) hm7 ?_
      intro r15 v16 S8 H9 s10 w11 p12 g14 rr17 hm13
      cases run_of_pure hm13
      exact fin _ ⟨S8, w11.g, p12, rr17⟩
    · intro S18 H19 s20 w21 p22 g23 hm24
      refine nx_done ?_
      refine q_unp w21 p22 (e_tup (K := K) (a_cons (e_mod (e_var (R := rI) rfl rfl) e_cI) (a_cons (c_lenT (Ev.eta (e_call (E := E0) (fm := fm_primes_of) (R := (rT K (aAll (rT K (aCons rI (aOne rI)))))) (a_one (e_var (R := rI) rfl rfl))))) (a_one (Ev.eta (e_call (E := E0) (fm := fm_reach_of) (R := (rT K (aCons rI (aOne rI)))) (a_one (e_var (R := rI) rfl rfl))))))) (arN_cons (arN_cons arN_one)) (by decide)) (g_tp (gq_cons (g_nm (R := rI)) (gq_cons (g_nm (R := rI)) (gq_one (g_tp (gq_cons (g_nm (R := rI)) (gq_one (g_nm (R := rI))))))))) hm24 ?_
      intro t25 σ33 S26 H27 s28 w29 p30 g32 hp hm31
      obtain ⟨_, ⟨_, rfl, rfl⟩, ⟨_, ⟨_, rfl, rfl⟩, ⟨_, ⟨_, rfl, rfl⟩, ⟨_, rfl, rfl⟩⟩⟩⟩ := hp
      refine q_if w29 p30 (t_andT (t_Test (e_ne (e_mod (e_var (R := rI) rfl rfl) e_cI) e_cI)) (t_Test (e_ne (e_var (R := rI) rfl rfl) e_cI))) hm31 ?_ ?_
      · intro S34 H35 s36 w37 p38 g39 hm40
        refine q_ret w37 p38 (Ev.some (Ev.inr (R' := rS) (Ev.inl (R' := (rT K (aCons rS (aOne (rT K (aCons rI (aOne rI))))))) (e_tup (K := K) (a_cons e_cS (a_one (e_var (R := rI) rfl rfl))) (arN_cons arN_one) (by decide))))) hm40 ?_
        intro r48 v49 S41 H42 s43 w44 p45 g47 rr50 hm46
        cases run_of_pure hm46
        exact fin _ ⟨S41, w44.g, p45, rr50⟩
      · intro S51 H52 s53 w54 p55 g56 hm57
        refine nx_done ?_
        refine q_if w54 p55 (t_Test (e_lt (e_var (R := rI) rfl rfl) e_cI)) hm57 ?_ ?_
        · intro S58 H59 s60 w61 p62 g63 hm64
          refine q_ret w61 p62 (Ev.some (Ev.inr (R' := rS) (Ev.inl (R' := (rT K (aCons rS (aOne (rT K (aCons rI (aOne rI))))))) (e_tup (K := K) (a_cons e_cS (a_one (e_var (R := rI) rfl rfl))) (arN_cons arN_one) (by decide))))) hm64 ?_
          intro r72 v73 S65 H66 s67 w68 p69 g71 rr74 hm70
          cases run_of_pure hm70
          exact fin _ ⟨S65, w68.g, p69, rr74⟩
        · intro S75 H76 s77 w78 p79 g80 hm81
          refine nx_done ?_
          refine q_ret w78 p79 (e_ifT (R := (rO (rU rS (rU (rT K (aCons rS (aOne rI))) (rT K (aCons rS (aOne (rT K (aCons rI (aOne rI)))))))))) (t_Test (e_le (e_var (R := rI) rfl rfl) (e_mul e_cI (e_var (R := rI) rfl rfl)))) (Ev.some (Ev.inr (R' := rS) (Ev.inr (R' := (rT K (aCons rS (aOne rI)))) (e_tup (K := K) (a_cons e_cS (a_one (e_tup (K := K) (a_cons (e_var (R := rI) rfl rfl) (a_one (e_var (R := rI) rfl rfl))) (arN_cons arN_one) (by decide)))) (arN_cons arN_one) (by decide))))) (Ev.none (R := (rU rS (rU (rT K (aCons rS (aOne rI))) (rT K (aCons rS (aOne (rT K (aCons rI (aOne rI))))))))) e_cN)) hm81 ?_
          intro r89 v90 S82 H83 s84 w85 p86 g88 rr91 hm87
          cases run_of_pure hm87
          exact fin _ ⟨S82, w85.g, p86, rr91⟩
end
abbrev t_divisors_told : Stmt := top 32
theorem sc_divisors_told : FnScope ["number", "found", "p", "k", "step", "longer", "power", "total", "d", "own"] ["number"] (defScope t_divisors_told) := ⟨rfl, rfl, rfl, by decide +kernel, rfl, by decide +kernel, by decide +kernel⟩
@[irreducible] noncomputable def m_divisors_told (p_number : Int) : Option (List (Int × Int)) :=
Mir.lft (grd (List.length ([((1 : Int), (1 : Int))] : List (Int × Int)) ≤ 16000000)) >>= fun _ => bnd ([((1 : Int), (1 : Int))] : List (Int × Int)) fun found1 =>
Mir.lft (m_primes_of p_number) >>= fun r237 => (lpS r237 (fun (x13 : (Int × Int)) (st11 : (List (Int × Int))) =>
bnd st11 fun longer73 =>
bnd (1 : Int) fun power84 =>
bnd (1 : Int) fun total94 =>
Mir.lft (grd (RgB x13.2)) >>= fun _ => (lpS (rng 0 x13.2) (fun (x111 : Int) (st109 : (List (Int × Int)) × Int × Int) =>
Mir.lft (grd (Sm st109.2.1 ∧ Sm x13.1)) >>= fun _ => bnd (st109.2.1 * x13.1) fun power159 =>
bnd (st109.2.2 + power159) fun total169 =>
Mir.lft (grd (List.length st11 ≤ 16000000)) >>= fun _ => cmp st11 (fun x179 => Mir.lft (grd (Sm x179.1 ∧ Sm power159)) >>= fun _ => Mir.lft (grd (Sm x179.2 ∧ Sm total169)) >>= fun _ => pure (some ((x179.1 * power159), (x179.2 * total169)))) >>= fun l192 => Mir.lft (grd (List.length st109.1 + List.length l192 ≤ 16000000)) >>= fun _ => bnd (st109.1 ++ l192) fun longer182 =>
pure (longer182, power159, total169)) (longer73, power84, total94)) >>= fun (st109 : (List (Int × Int)) × Int × Int) =>
bnd st109.1 fun _ =>
pure st109.1) found1) >>= fun (st11 : (List (Int × Int))) =>
bnd (srt2 st11) fun r233 => pure r233
noncomputable abbrev fm_divisors_told : (Int) → Option (List (Int × Int)) := fun a => m_divisors_told a
abbrev sp_divisors_told (K : PySem.W.Frag) : Sp := spN F0 fm_divisors_told (fun _ => (aOne rI)) (aAll (rT K (aCons rI (aOne rI))))
section
variable {P : Program} {w : World} {K : PySem.W.Frag} {mg : Str → Option Value} {base : Heap}
theorem g_divisors_told (T : Tx mg base) (D0 : Dk P w K mg base "primes_of" "primes_of" t_primes_of 4 ["number"] (sp_primes_of K)) {f : Addr} {fd : FuncData} (F : Fun K "divisors_told" "divisors_told" t_divisors_told f fd) : FnG P w K mg base CX0 5 f fd ["number"] (sp_divisors_told K) := by
  obtain ⟨f0, fd0, F0, m0, G0, b0⟩ := D0
  refine okG0 F sc_divisors_told (fun vs H Q E h => ?_) (fun cdv A outer s0_ H0 vs Q E hr gd h => ?_)
  · obtain ⟨_, _, _, _, _, _, _, _, ⟨_, rfl, _⟩, _⟩ := h
    rfl
  · obtain ⟨_, p_number, S0, s0, r, s', e0, p0, ⟨_, rfl, rfl⟩, hm0, fin0⟩ := h
    have fin : ∀ v {H' : Hp}, (∃ S' q us, v = .ref q ∧ Gm (pt0).M S0 H0 S' H' ∧ PotAt pt0 s' S' H' ∧ H0 q = none ∧ H' q = some (.lst us) ∧ S' q = none ∧ (aAll (rT K (aCons rI (aOne rI)))) r us S') → Q v H' := fun v {H'} ⟨S', q, us, h0, h1, h2, h3, h4, h5, h6⟩ => by subst h0; exact fin0 q us S' H' h1 h2 h3 h4 h5 h6
    have w0 : Wd pt0 S0 H0 S0 H0 [] := Wd.start e0
    have hm0 : Mir.run (m_divisors_told p_number) s0 = some (r, s') := hm0
    unfold m_divisors_told at hm0
    have sc := sc_divisors_told
    refine ⟨_, pss_cons (ps_set (i := 1) sc.nd rfl (by first | exact Or.inl rfl | exact Or.inr rfl) (pe_lst (pa_cons (pe_tup (pa_cons (pe_int) (pa_cons (pe_int) (pa_nil)))) (pa_nil)))) (pss_cons (ps_for PassesOwn.never rfl (k_pit K (pe_cG G0 (hr.mono (by decide)) gd rfl m0 F0.kp b0 pass0 (pa_cons (pv 0) (pa_nil)))) (k_gt K (pgs_cons (pg_name (i := 2) sc.nd rfl (by first | exact Or.inl rfl | exact Or.inr rfl)) (pgs_cons (pg_name (i := 3) sc.nd rfl (by first | exact Or.inl rfl | exact Or.inr rfl)) (pgs_nil)))) (pss_cons (ps_asg (pe_tup (pa_cons (pe_callTy (k_listOf K) (by rfl) T.n_list (by decide +kernel) (pa_cons (pv 1) pa_nil)) (pa_cons (pe_int) (pa_cons (pe_int) (pa_nil))))) (k_gt K (pgs_cons (pg_name (i := 5) sc.nd rfl (by first | exact Or.inl rfl | exact Or.inr rfl)) (pgs_cons (pg_name (i := 6) sc.nd rfl (by first | exact Or.inl rfl | exact Or.inr rfl)) (pgs_cons (pg_name (i := 7) sc.nd rfl (by first | exact Or.inl rfl | exact Or.inr rfl)) (pgs_nil)))))) (pss_cons (ps_for PassesOwn.never rfl (pi_range1 rfl T.n_range (pa_cons (pv 3) pa_nil)) (pg_name (i := 4) sc.nd rfl (by first | exact Or.inl rfl | exact Or.inr rfl)) (pss_cons (ps_set (i := 6) sc.nd rfl (by first | exact Or.inl rfl | exact Or.inr rfl) (pe_op op_mulX (pv 6) (pv 2))) (pss_cons (ps_set (i := 7) sc.nd rfl (by first | exact Or.inl rfl | exact Or.inr rfl) (pe_op op_add (pv 7) (pv 6))) (pss_cons (ps_expr (pe_bm PySem.F.plainAttrs_list PySem.F.slot_list_extend PySem.F.type_list_extend mt_extend (pv 5) (pa_cons (pe_lc (own := [("d", 8), ("own", 9)]) (g := (gTup K 2 (gCons (gName 8) (gCons (gName 9) gNil)))) (tt := tYes) rfl sc.nd (k_pil K (pv 1)) (blkOk_by (N := ["number", "found", "p", "k", "step", "longer", "power", "total", "d", "own"]) (sc := defScope t_divisors_told) (by decide +kernel)) (fun _ _ _ _ _ => k_gt K (pgs_cons (pg_name (i := 8) sc.nd rfl (by first | exact Or.inl rfl | exact Or.inr rfl)) (pgs_cons (pg_name (i := 9) sc.nd rfl (by first | exact Or.inl rfl | exact Or.inr rfl)) (pgs_nil)))) (fun _ _ _ _ _ => pts_nil) (fun _ _ _ _ _ => pe_tup (pa_cons (pe_op op_mulX (pv 8) (pv 6)) (pa_cons (pe_op op_mulX (pv 9) (pv 7)) (pa_nil))))) pa_nil))) (pss_nil))))) (pss_cons (ps_set (i := 1) sc.nd rfl (by first | exact Or.inl rfl | exact Or.inr rfl) (pv 5)) (pss_nil))))) (pss_cons (ps_ret (pe_callB (k_srtP K) (by rfl) T.n_sorted (by decide +kernel) (pa_cons (pv 1) pa_nil))) (pss_nil))), ?_⟩
    refine q_set (fun v => [some (.int p_number), some v, none, none, none, none, none, none, none, none]) (fun _ => rfl) w0 p0 (EvL.frz (l_lstL (a_consL (e_tupP (a_cons e_cI (a_one e_cI)) (arN_cons arN_one) (by decide)) (a_nilL (R := (rPT (aCons rI (aOne rI)))))))) hm0 ?_
    intro found1 vfound9 S2 H3 s4 w5 p6 g8 rfound10 hm7
    refine q_for (p := pt0) w5 p6 (i_T (Ev.eta (e_call (E := E0) (fm := fm_primes_of) (R := (rT K (aAll (rT K (aCons rI (aOne rI)))))) (a_one (e_var (R := rI) rfl rfl))))) (g_tp (gq_cons (g_nm (R := rI)) (gq_one (g_nm (R := rI))))) hm7 (fun Sb12 st11 σ S' H' s' => Ex Sb12 S' ∧ (∃ (vfound_ : V) (xp_ : Option V) (xk_ : Option V) (xstep_ : Option V) (xlonger_ : Option V) (xpower_ : Option V) (xtotal_ : Option V), σ = [some (.int p_number), some vfound_, xp_, xk_, xstep_, xlonger_, xpower_, xtotal_, none, none] ∧ Wd pt0 S0 H0 S' H' [] ∧ PotAt pt0 s' S' H' ∧ Ex S2 S' ∧ (rL (aAll (rPT (aCons rI (aOne rI))))) st11 vfound_ S')) ?_ ?_ ?_ ?_ ?_
    · intro S14 H15 s16 w17 p18 g19
      have rfound10 := Mo.mo g19.s rfound10
      exact ⟨Ex.rf, ⟨_, _, _, _, _, _, _, rfl, w17, p18, g19.s, rfound10⟩⟩
    · rintro Sb12 st11 _ S31 H32 s33 ⟨ex34, ⟨vfound20, xp21, xk22, xstep23, xlonger24, xpower25, xtotal26, rfl, w28, p29, eb30, rfound27⟩⟩
      exact ⟨ex34, w28.i, p29, ownOk0⟩
    · rintro Sb12 st11 _ S46 H47 s48 S49 H50 ⟨ex52, ⟨vfound35, xp36, xk37, xstep38, xlonger39, xpower40, xtotal41, rfl, w43, p44, eb45, rfound42⟩⟩ g51
      exact ⟨ex52.tr g51.s, _, _, _, _, _, _, _, rfl, w43.go (Gm.up g51), PotAt.go p44 g51, eb45.tr g51.s, Mo.mo g51.s rfound42⟩
    · rintro Sb12 x13 st11 _ σ72 S64 H65 s66 st11_ s2_ D_ ⟨ex71, ⟨vfound53, xp54, xk55, xstep56, xlonger57, xpower58, xtotal59, rfl, w61, p62, eb63, rfound60⟩⟩ hp hm67 nx68
      obtain ⟨_, ⟨_, rfl, rfl⟩, ⟨_, rfl, rfl⟩⟩ := hp
      refine tup3_go ?_
      refine x_evL w61 p62 (l_list (Ev.rd (e_var rfl rfound60))) hm67 ?_
      intro longer73 q81 vs82 S74 H75 s76 w77 p78 g80 rlonger83 hm79
      have rlonger83 : All (rPT (aCons rI (aOne rI))) _ _ _ := rlonger83
      have rfound60 := Mo.mo g80.s rfound60
      have eb63 := eb63.tr g80.s
      have ex71 := ex71.tr g80.s
      refine x_ev w77 p78 e_cI hm79 ?_
      intro power84 vpower92 S85 H86 s87 w88 p89 g91 rpower93 hm90
      cases (show vpower92 = .int power84 from rpower93)
      have rfound60 := Mo.mo g91.s rfound60
      have rlonger83 := All.mo g91.s rlonger83
      have eb63 := eb63.tr g91.s
      have ex71 := ex71.tr g91.s
      refine x_ev w88 p89 e_cI hm90 ?_
      intro total94 vtotal102 S95 H96 s97 w98 p99 g101 rtotal103 hm100
      cases (show vtotal102 = .int total94 from rtotal103)
      have rfound60 := Mo.mo g101.s rfound60
      have rlonger83 := All.mo g101.s rlonger83
      have eb63 := eb63.tr g101.s
      have ex71 := ex71.tr g101.s
      refine tup_end (is := [5, 6, 7]) [some (.int p_number), some vfound53, some (.int x13.1), some (.int x13.2), xstep56, some (.ref q81), some (.int power84), some (.int total94), none, none] w98 p99 rfl (by simp) rfl ?_
      intro S104 H105 w106 p107 g108
      have rfound60 := Mo.mo g108.s rfound60
      have rlonger83 := All.mo g108.s rlonger83
      have eb63 := eb63.tr g108.s
      have ex71 := ex71.tr g108.s
      refine q_for (p := pt0) w106 p107 (i_R1 (e_var (R := rI) rfl rfl)) (g_nm (R := rI)) hm100 (fun Sb110 st109 σ S' H' s' => Ex Sb110 S' ∧ (∃ (xstep_ : Option V) (qlonger_ : Addr) (uslonger_ : List V), σ = [some (.int p_number), some vfound53, some (.int x13.1), some (.int x13.2), xstep_, some (.ref qlonger_), some (.int st109.2.1), some (.int st109.2.2), none, none] ∧ Wd pt0 S0 H0 S' H' [(qlonger_, .lst uslonger_)] ∧ PotAt pt0 s' S' H' ∧ Ex S104 S' ∧ All (rPT (aCons rI (aOne rI))) S' st109.1 uslonger_)) ?_ ?_ ?_ ?_ ?_
      · intro S112 H113 s114 w115 p116 g117
        have rfound60 := Mo.mo g117.s rfound60
        have rlonger83 := All.mo g117.s rlonger83
        have eb63 := eb63.tr g117.s
        have ex71 := ex71.tr g117.s
        exact ⟨Ex.rf, ⟨_, _, _, rfl, w115, p116, g117.s, rlonger83⟩⟩
      · rintro Sb110 st109 _ S125 H126 s127 ⟨ex128, ⟨xstep118, qlonger119, uslonger120, rfl, w122, p123, eb124, rlonger121⟩⟩
        exact ⟨ex128, w122.i, p123, ownOk0⟩
      · rintro Sb110 st109 _ S136 H137 s138 S139 H140 ⟨ex142, ⟨xstep129, qlonger130, uslonger131, rfl, w133, p134, eb135, rlonger132⟩⟩ g141
        exact ⟨ex142.tr g141.s, _, _, _, rfl, w133.go (Gm.up g141), PotAt.go p134 g141, eb135.tr g141.s, All.mo g141.s rlonger132⟩
      · rintro Sb110 x111 st109 _ σ158 S150 H151 s152 st109_ s2_ D_ ⟨ex157, ⟨xstep143, qlonger144, uslonger145, rfl, w147, p148, eb149, rlonger146⟩⟩ hp hm153 nx154
        obtain ⟨_, rfl, rfl⟩ := hp
        have rfound60 := Mo.mo eb149 rfound60
        have eb63 := eb63.tr eb149
        have ex71 := ex71.tr eb149
        refine q_set (fun v => [some (.int p_number), some vfound53, some (.int x13.1), some (.int x13.2), some (.int x111), some (.ref qlonger144), some v, some (.int st109.2.2), none, none]) (fun _ => rfl) w147 p148 (e_mul (e_var (R := rI) rfl rfl) (e_var (R := rI) rfl rfl)) hm153 ?_
        intro power159 vpower167 S160 H161 s162 w163 p164 g166 rpower168 hm165
        cases (show vpower167 = .int power159 from rpower168)
        have rfound60 := Mo.mo g166.s rfound60
        have rlonger146 := All.mo g166.s rlonger146
        have eb63 := eb63.tr g166.s
        have ex71 := ex71.tr g166.s
        have eb149 := eb149.tr g166.s
        have ex157 := ex157.tr g166.s
        refine q_set (fun v => [some (.int p_number), some vfound53, some (.int x13.1), some (.int x13.2), some (.int x111), some (.ref qlonger144), some (.int power159), some v, none, none]) (fun _ => rfl) w163 p164 (e_add (e_var (R := rI) rfl rfl) (e_var (R := rI) rfl rfl)) hm165 ?_
        intro total169 vtotal177 S170 H171 s172 w173 p174 g176 rtotal178 hm175
        cases (show vtotal177 = .int total169 from rtotal178)
        have rfound60 := Mo.mo g176.s rfound60
        have rlonger146 := All.mo g176.s rlonger146
        have eb63 := eb63.tr g176.s
        have ex71 := ex71.tr g176.s
        have eb149 := eb149.tr g176.s
        have ex157 := ex157.tr g176.s
        refine q_ext (j := 0) w173 p174 rfl rfl rlonger146 (l_lc1 (γ := (Int × Int)) (vs := [8, 9]) (me := fun x179 k => Mir.lft (grd (Sm x179.1 ∧ Sm power159)) >>= fun _ => Mir.lft (grd (Sm x179.2 ∧ Sm total169)) >>= fun _ => k ((x179.1 * power159), (x179.2 * total169))) (R' := (rPT (aCons rI (aOne rI)))) (i_L (K := K) (e_var rfl rfound60)) ownOk0 (g_pt (g_tp (gq_cons (g_nm (R := rI)) (gq_one (g_nm (R := rI)))))) (fun x σ' S hp => by obtain ⟨_, ⟨_, rfl, _⟩, ⟨_, rfl, _⟩⟩ := hp; rfl) (fun x179 σ' S1 H1 g180 hp => by have w181 := w173.go g180; obtain ⟨_, ⟨_, rfl, rfl⟩, ⟨_, rfl, rfl⟩⟩ := hp; have rfound60 := Mo.mo g180.s rfound60; have rlonger146 := All.mo g180.s rlonger146; exact (e_tupP (a_cons (e_mul (e_var (R := rI) rfl rfl) (e_var (R := rI) rfl rfl)) (a_one (e_mul (e_var (R := rI) rfl rfl) (e_var (R := rI) rfl rfl)))) (arN_cons arN_one) (by decide))) (pm_cons pm_nm pm_nm)) hm175 ?_
        intro longer182 vs183 S185 H186 s187 w188 p189 e191 rlonger184 hm190
        have rfound60 := Mo.mo e191 rfound60
        have eb63 := eb63.tr e191
        have ex71 := ex71.tr e191
        have eb149 := eb149.tr e191
        have ex157 := ex157.tr e191
        cases run_of_pure hm190
        exact (nx154 _ _ _ ⟨ex157, ⟨_, _, _, rfl, w188, p189, eb149, rlonger184⟩⟩).1
      · rintro Sb110 st109 _ S200 H201 s202 ⟨_, ⟨xstep193, qlonger194, uslonger195, rfl, w197, p198, eb199, rlonger196⟩⟩ hm203
        have rfound60 := Mo.mo eb199 rfound60
        have eb63 := eb63.tr eb199
        have ex71 := ex71.tr eb199
        refine q_mv (i := 5) (j := 0) [some (.int p_number), some (.ref qlonger194), some (.int x13.1), some (.int x13.2), xstep193, some (.ref qlonger194), some (.int st109.2.1), some (.int st109.2.2), none, none] rfl w197 p198 rfl rfl rlonger196 hm203 ?_
        intro S204 w205 p206 ex207 r208 hm209
        have eb63 := eb63.tr ex207
        have ex71 := ex71.tr ex207
        cases run_of_pure hm209
        exact (nx68 _ _ _ ⟨ex71, ⟨_, _, _, _, _, _, _, rfl, w205, p206, eb63, r208⟩⟩).1
    · rintro Sb12 st11 _ S222 H223 s224 ⟨_, ⟨vfound211, xp212, xk213, xstep214, xlonger215, xpower216, xtotal217, rfl, w219, p220, eb221, rfound218⟩⟩ hm225
      refine q_retL w219 p220 (l_srtP (K := K) (Ev.rd (e_var rfl rfound218))) hm225 ?_
      intro r233 q234 vs235 S226 H227 s228 w229 p230 g232 rr236 hm231
      cases run_of_pure hm231
      exact fin _ ⟨S226, q234, vs235, rfl, w229.g, p230, (w229.at (i := 0) rfl).2.2, (w229.at (i := 0) rfl).1, (w229.at (i := 0) rfl).2.1, rr236⟩
end
abbrev t_excess_of : Stmt := top 33
theorem sc_excess_of : FnScope ["number"] ["number"] (defScope t_excess_of) := ⟨rfl, rfl, rfl, by decide +kernel, rfl, by decide +kernel, by decide +kernel⟩
@[irreducible] noncomputable def m_excess_of (p_number : Int) : Option Int :=
Mir.lft (m_divisors_told p_number) >>= fun r12 => Mir.lft (L2.atI r12 (-(1 : Int))) >>= fun y11 => Mir.lft (grd (Sm (2 : Int) ∧ Sm p_number)) >>= fun _ => bnd ((y11.2) - ((2 : Int) * p_number)) fun r8 => pure r8
noncomputable abbrev fm_excess_of : (Int) → Option Int := fun a => m_excess_of a
abbrev sp_excess_of (K : PySem.W.Frag) : Sp := spV F0 fm_excess_of (fun _ => (aOne rI)) rI
section
variable {P : Program} {w : World} {K : PySem.W.Frag} {mg : Str → Option Value} {base : Heap}
theorem g_excess_of (T : Tx mg base) (D0 : Dk P w K mg base "divisors_told" "divisors_told" t_divisors_told 5 ["number"] (sp_divisors_told K)) {f : Addr} {fd : FuncData} (F : Fun K "excess_of" "excess_of" t_excess_of f fd) : FnG P w K mg base CX0 6 f fd ["number"] (sp_excess_of K) := by
  obtain ⟨f0, fd0, F0, m0, G0, b0⟩ := D0
  refine okG0 F sc_excess_of (fun vs H Q E h => ?_) (fun cdv A outer s0_ H0 vs Q E hr gd h => ?_)
  · obtain ⟨_, _, _, _, _, _, _, _, ⟨_, rfl, _⟩, _⟩ := h
    rfl
  · obtain ⟨_, p_number, S0, s0, r, s', e0, p0, ⟨_, rfl, rfl⟩, hm0, fin0⟩ := h
    have fin : ∀ v {H' : Hp}, (∃ S', Gm (pt0).M S0 H0 S' H' ∧ PotAt pt0 s' S' H' ∧ rI r v S') → Q v H' := fun v {H'} ⟨S', h1, h2, h3⟩ => fin0 v S' H' h1 h2 h3
    have w0 : Wd pt0 S0 H0 S0 H0 [] := Wd.start e0
    have hm0 : Mir.run (m_excess_of p_number) s0 = some (r, s') := hm0
    unfold m_excess_of at hm0
    have sc := sc_excess_of
    refine ⟨_, pss_cons (ps_ret (pe_op op_sub (pe_ix (k_ixT K) (pe_ix (k_ixL K) (pe_cG G0 (hr.mono (by decide)) gd rfl m0 F0.kp b0 pass0 (pa_cons (pv 0) (pa_nil))) (pe_un un_neg (pe_int)) (fun _ _ => rfl)) (pe_int) (fun _ _ => rfl)) (pe_op op_mulX (pe_int) (pv 0)))) (pss_nil), ?_⟩
    refine q_ret w0 p0 (e_sub (e_ixC (n := 1) (mB := fun k => k 1) (A := (aCons rI (aOne rI))) (R := rI) (f := fun a => a.2) (e_ixL (EvL.rd (EvL.eta (l_call (E := E0) (fm := fm_divisors_told) (R := (aAll (rT K (aCons rI (aOne rI))))) (a_one (e_var (R := rI) rfl rfl))))) (e_neg e_cI)) rfl (fun a vs S h => by obtain ⟨_, _, rfl, h0, ⟨_, rfl, h1⟩⟩ := h; exact ⟨_, rfl, h1⟩)) (e_mul e_cI (e_var (R := rI) rfl rfl))) hm0 ?_
    intro r8 v9 S1 H2 s3 w4 p5 g7 rr10 hm6
    cases run_of_pure hm6
    exact fin _ ⟨S1, w4.g, p5, rr10⟩
end
abbrev t_kind_of : Stmt := top 34
theorem sc_kind_of : FnScope ["number", "excess"] ["number"] (defScope t_kind_of) := ⟨rfl, rfl, rfl, by decide +kernel, rfl, by decide +kernel, by decide +kernel⟩
@[irreducible] noncomputable def m_kind_of (p_number : Int) : Option Str :=
Mir.lft (m_excess_of p_number) >>= fun r45 => bnd r45 fun excess1 =>
if (decide (excess1 = (0 : Int))) = true then
(bnd ("whole" : Str) fun r25 => pure r25)
else
(bnd (if (decide ((0 : Int) < excess1)) = true then ("rich" : Str) else ("poor" : Str)) fun r42 => pure r42)
noncomputable abbrev fm_kind_of : (Int) → Option Str := fun a => m_kind_of a
abbrev sp_kind_of (K : PySem.W.Frag) : Sp := spV F0 fm_kind_of (fun _ => (aOne rI)) rS
section
variable {P : Program} {w : World} {K : PySem.W.Frag} {mg : Str → Option Value} {base : Heap}
theorem g_kind_of (T : Tx mg base) (D0 : Dk P w K mg base "excess_of" "excess_of" t_excess_of 6 ["number"] (sp_excess_of K)) {f : Addr} {fd : FuncData} (F : Fun K "kind_of" "kind_of" t_kind_of f fd) : FnG P w K mg base CX0 7 f fd ["number"] (sp_kind_of K) := by
  obtain ⟨f0, fd0, F0, m0, G0, b0⟩ := D0
  refine okG0 F sc_kind_of (fun vs H Q E h => ?_) (fun cdv A outer s0_ H0 vs Q E hr gd h => ?_)
  · obtain ⟨_, _, _, _, _, _, _, _, ⟨_, rfl, _⟩, _⟩ := h
    rfl
  · obtain ⟨_, p_number, S0, s0, r, s', e0, p0, ⟨_, rfl, rfl⟩, hm0, fin0⟩ := h
    have fin : ∀ v {H' : Hp}, (∃ S', Gm (pt0).M S0 H0 S' H' ∧ PotAt pt0 s' S' H' ∧ rS r v S') → Q v H' := fun v {H'} ⟨S', h1, h2, h3⟩ => fin0 v S' H' h1 h2 h3
    have w0 : Wd pt0 S0 H0 S0 H0 [] := Wd.start e0
    have hm0 : Mir.run (m_kind_of p_number) s0 = some (r, s') := hm0
    unfold m_kind_of at hm0
    have sc := sc_kind_of
    refine ⟨_, pss_cons (ps_set (i := 1) sc.nd rfl (by first | exact Or.inl rfl | exact Or.inr rfl) (pe_cG G0 (hr.mono (by decide)) gd rfl m0 F0.kp b0 pass0 (pa_cons (pv 0) (pa_nil)))) (pss_cons (ps_if (pt_cmpR op_eq (pv 1) (pe_int) (nomark _)) (pss_cons (ps_ret (pe_str)) (pss_nil)) (pss_nil)) (pss_cons (ps_ret (pe_ifExp (pt_cmpR op_gt (pv 1) (pe_int) (nomark _)) (pe_str) (pe_str))) (pss_nil))), ?_⟩
    refine q_set (fun v => [some (.int p_number), some v]) (fun _ => rfl) w0 p0 (Ev.eta (e_call (E := E0) (fm := fm_excess_of) (R := rI) (a_one (e_var (R := rI) rfl rfl)))) hm0 ?_
    intro excess1 vexcess9 S2 H3 s4 w5 p6 g8 rexcess10 hm7
    cases (show vexcess9 = .int excess1 from rexcess10)
    refine q_if w5 p6 (t_Test (e_eq (e_var (R := rI) rfl rfl) e_cI)) hm7 ?_ ?_
    · intro S11 H12 s13 w14 p15 g16 hm17
      refine q_ret w14 p15 e_cS hm17 ?_
      intro r25 v26 S18 H19 s20 w21 p22 g24 rr27 hm23
      cases run_of_pure hm23
      exact fin _ ⟨S18, w21.g, p22, rr27⟩
    · intro S28 H29 s30 w31 p32 g33 hm34
      refine nx_done ?_
      refine q_ret w31 p32 (e_ifT (R := rS) (t_Test (e_gt (e_var (R := rI) rfl rfl) e_cI)) e_cS e_cS) hm34 ?_
      intro r42 v43 S35 H36 s37 w38 p39 g41 rr44 hm40
      cases run_of_pure hm40
      exact fin _ ⟨S35, w38.g, p39, rr44⟩
end
abbrev t_first_divisor : Stmt := top 35
theorem sc_first_divisor : FnScope ["number", "d", "total"] ["number"] (defScope t_first_divisor) := ⟨rfl, rfl, rfl, by decide +kernel, rfl, by decide +kernel, by decide +kernel⟩
@[irreducible] noncomputable def m_first_divisor (p_number : Int) : Option (Option Int) :=
Mir.lft (m_divisors_told p_number) >>= fun r90 => (lpC (ρ := (Option Int)) r90 (fun (x3 : (Int × Int)) (st1 : Unit) =>
Mir.lft (grd (Sm (2 : Int) ∧ Sm x3.1)) >>= fun _ => if (decide (((2 : Int) * x3.1) ≤ x3.2)) = true then
(bnd (some x3.1) fun r59 => pure (Ctl.ret r59))
else
(pure (Ctl.go ()))) ()) >>= fun o => aft o (fun (st1 : Unit) =>
bnd none fun r85 => pure r85) (fun r88 => pure r88)
noncomputable abbrev fm_first_divisor : (Int) → Option (Option Int) := fun a => m_first_divisor a
abbrev sp_first_divisor (K : PySem.W.Frag) : Sp := spV F0 fm_first_divisor (fun _ => (aOne rI)) (rO rI)
section
variable {P : Program} {w : World} {K : PySem.W.Frag} {mg : Str → Option Value} {base : Heap}
theorem g_first_divisor (T : Tx mg base) (D0 : Dk P w K mg base "divisors_told" "divisors_told" t_divisors_told 5 ["number"] (sp_divisors_told K)) {f : Addr} {fd : FuncData} (F : Fun K "first_divisor" "first_divisor" t_first_divisor f fd) : FnG P w K mg base CX0 6 f fd ["number"] (sp_first_divisor K) := by
  obtain ⟨f0, fd0, F0, m0, G0, b0⟩ := D0
  refine okG0 F sc_first_divisor (fun vs H Q E h => ?_) (fun cdv A outer s0_ H0 vs Q E hr gd h => ?_)
  · obtain ⟨_, _, _, _, _, _, _, _, ⟨_, rfl, _⟩, _⟩ := h
    rfl
  · obtain ⟨_, p_number, S0, s0, r, s', e0, p0, ⟨_, rfl, rfl⟩, hm0, fin0⟩ := h
    have fin : ∀ v {H' : Hp}, (∃ S', Gm (pt0).M S0 H0 S' H' ∧ PotAt pt0 s' S' H' ∧ (rO rI) r v S') → Q v H' := fun v {H'} ⟨S', h1, h2, h3⟩ => fin0 v S' H' h1 h2 h3
    have w0 : Wd pt0 S0 H0 S0 H0 [] := Wd.start e0
    have hm0 : Mir.run (m_first_divisor p_number) s0 = some (r, s') := hm0
    unfold m_first_divisor at hm0
    have sc := sc_first_divisor
    refine ⟨_, pss_cons (ps_for PassesOwn.never rfl (k_pil K (pe_cG G0 (hr.mono (by decide)) gd rfl m0 F0.kp b0 pass0 (pa_cons (pv 0) (pa_nil)))) (k_gt K (pgs_cons (pg_name (i := 1) sc.nd rfl (by first | exact Or.inl rfl | exact Or.inr rfl)) (pgs_cons (pg_name (i := 2) sc.nd rfl (by first | exact Or.inl rfl | exact Or.inr rfl)) (pgs_nil)))) (pss_cons (ps_if (pt_cmpR op_ge (pv 2) (pe_op op_mulX (pe_int) (pv 1)) (nomark _)) (pss_cons (ps_ret (pv 1)) (pss_nil)) (pss_nil)) (pss_nil))) (pss_cons (ps_ret (pe_non)) (pss_nil)), ?_⟩
    refine q_forC (p := pt0) (ρ := (Option Int)) w0 p0 (i_L (K := K) (EvL.frz (EvL.eta (l_call (E := E0) (fm := fm_divisors_told) (R := (aAll (rT K (aCons rI (aOne rI))))) (a_one (e_var (R := rI) rfl rfl)))))) (g_tp (gq_cons (g_nm (R := rI)) (gq_one (g_nm (R := rI))))) hm0 (fun Sb2 st1 σ S' H' s' => Ex Sb2 S' ∧ (∃ (xd_ : Option V) (xtotal_ : Option V), σ = [some (.int p_number), xd_, xtotal_] ∧ Wd pt0 S0 H0 S' H' [] ∧ PotAt pt0 s' S' H' ∧ Ex S0 S')) (fun r v H' s' => ∃ S', Gm (pt0).M S0 H0 S' H' ∧ PotAt pt0 s' S' H' ∧ (rO rI) r v S') ?_ ?_ ?_ ?_ ?_ ?_
    · intro S4 H5 s6 w7 p8 g9
      exact ⟨Ex.rf, ⟨_, _, rfl, w7, p8, g9.s⟩⟩
    · rintro Sb2 st1 _ S15 H16 s17 ⟨ex18, ⟨xd10, xtotal11, rfl, w12, p13, eb14⟩⟩
      exact ⟨ex18, w12.i, p13, ownOk0⟩
    · rintro Sb2 st1 _ S24 H25 s26 S27 H28 ⟨ex30, ⟨xd19, xtotal20, rfl, w21, p22, eb23⟩⟩ g29
      exact ⟨ex30.tr g29.s, _, _, rfl, w21.go (Gm.up g29), PotAt.go p22 g29, eb23.tr g29.s⟩
    · rintro Sb2 x3 st1 _ σ44 S36 H37 s38 st1_ s2_ D_ ⟨ex43, ⟨xd31, xtotal32, rfl, w33, p34, eb35⟩⟩ hp hm39 nx40 bk41 rt42
      obtain ⟨_, ⟨_, rfl, rfl⟩, ⟨_, rfl, rfl⟩⟩ := hp
      refine q_if w33 p34 (t_Test (e_ge (e_var (R := rI) rfl rfl) (e_mul e_cI (e_var (R := rI) rfl rfl)))) hm39 ?_ ?_
      · intro S45 H46 s47 w48 p49 g50 hm51
        have eb35 := eb35.tr g50.s
        have ex43 := ex43.tr g50.s
        refine q_ret w48 p49 (Ev.some (e_var (R := rI) rfl rfl)) hm51 ?_
        intro r59 v60 S52 H53 s54 w55 p56 g58 rr61 hm57
        cases run_of_pure hm57
        exact rt42 _ _ _ rfl ⟨S52, w55.g, p56, rr61⟩
      · intro S62 H63 s64 w65 p66 g67 hm68
        have eb35 := eb35.tr g67.s
        have ex43 := ex43.tr g67.s
        refine nx_done ?_
        cases run_of_pure hm68
        exact (nx40 _ _ _ _ rfl ⟨ex43, ⟨_, _, rfl, w65, p66, eb35⟩⟩).1
    · rintro Sb2 st1 _ S74 H75 s76 ⟨_, ⟨xd69, xtotal70, rfl, w71, p72, eb73⟩⟩ hm77
      have hm77 := hm77.elim id id
      refine q_ret w71 p72 (Ev.none (R := rI) e_cN) hm77 ?_
      intro r85 v86 S78 H79 s80 w81 p82 g84 rr87 hm83
      cases run_of_pure hm83
      exact fin _ ⟨S78, w81.g, p82, rr87⟩
    · intro r88 v89 H' s' hr1 hm1
      cases run_of_pure hm1
      exact fin _ hr1
end
abbrev t_is_first_one : Stmt := top 36
theorem sc_is_first_one : FnScope ["number"] ["number"] (defScope t_is_first_one) := ⟨rfl, rfl, rfl, by decide +kernel, rfl, by decide +kernel, by decide +kernel⟩
@[irreducible] noncomputable def m_is_first_one (p_number : Int) : Option Bool :=
Mir.lft (m_first_divisor p_number) >>= fun r11 => bnd (decide (r11 = (some p_number))) fun r8 => pure r8
noncomputable abbrev fm_is_first_one : (Int) → Option Bool := fun a => m_is_first_one a
abbrev sp_is_first_one (K : PySem.W.Frag) : Sp := spV F0 fm_is_first_one (fun _ => (aOne rI)) rB
section
variable {P : Program} {w : World} {K : PySem.W.Frag} {mg : Str → Option Value} {base : Heap}
theorem g_is_first_one (T : Tx mg base) (D0 : Dk P w K mg base "first_divisor" "first_divisor" t_first_divisor 6 ["number"] (sp_first_divisor K)) {f : Addr} {fd : FuncData} (F : Fun K "is_first_one" "is_first_one" t_is_first_one f fd) : FnG P w K mg base CX0 7 f fd ["number"] (sp_is_first_one K) := by
  obtain ⟨f0, fd0, F0, m0, G0, b0⟩ := D0
  refine okG0 F sc_is_first_one (fun vs H Q E h => ?_) (fun cdv A outer s0_ H0 vs Q E hr gd h => ?_)
  · obtain ⟨_, _, _, _, _, _, _, _, ⟨_, rfl, _⟩, _⟩ := h
    rfl
  · obtain ⟨_, p_number, S0, s0, r, s', e0, p0, ⟨_, rfl, rfl⟩, hm0, fin0⟩ := h
    have fin : ∀ v {H' : Hp}, (∃ S', Gm (pt0).M S0 H0 S' H' ∧ PotAt pt0 s' S' H' ∧ rB r v S') → Q v H' := fun v {H'} ⟨S', h1, h2, h3⟩ => fin0 v S' H' h1 h2 h3
    have w0 : Wd pt0 S0 H0 S0 H0 [] := Wd.start e0
    have hm0 : Mir.run (m_is_first_one p_number) s0 = some (r, s') := hm0
    unfold m_is_first_one at hm0
    have sc := sc_is_first_one
    refine ⟨_, pss_cons (ps_ret (pe_cmpR (k_eqD K hr) (pe_cG G0 (hr.mono (by decide)) gd rfl m0 F0.kp b0 pass0 (pa_cons (pv 0) (pa_nil))) (pv 0) (nomark _))) (pss_nil), ?_⟩
    refine q_ret w0 p0 (e_eqQ (q_O q_I nn_I) (by decide) (Ev.Q (Ev.eta (e_call (E := E0) (fm := fm_first_divisor) (R := (rO rI)) (a_one (e_var (R := rI) rfl rfl)))) (d_O d_I)) (Ev.Q (Ev.some (e_var (R := rI) rfl rfl)) (d_O d_I))) hm0 ?_
    intro r8 v9 S1 H2 s3 w4 p5 g7 rr10 hm6
    cases run_of_pure hm6
    exact fin _ ⟨S1, w4.g, p5, rr10⟩
end
abbrev t_fraction_of : Stmt := top 38
theorem sc_fraction_of : FnScope ["above", "below", "divisor"] ["above", "below"] (defScope t_fraction_of) := ⟨rfl, rfl, rfl, by decide +kernel, rfl, by decide +kernel, by decide +kernel⟩
@[irreducible] noncomputable def m_fraction_of (p_above : Int) (p_below : Int) : Option (Int × Int) :=
Mir.lft (m_common_divisor p_above p_below) >>= fun r21 => bnd r21 fun divisor1 =>
Mir.lft (grd (Dv divisor1)) >>= fun _ => Mir.lft (grd (Dv divisor1)) >>= fun _ => bnd ((p_above / divisor1), (p_below / divisor1)) fun r18 => pure r18
noncomputable abbrev fm_fraction_of : (Int × Int) → Option (Int × Int) := fun (a0, a1) => m_fraction_of a0 a1
abbrev sp_fraction_of (K : PySem.W.Frag) : Sp := spV F0 fm_fraction_of (fun _ => (aCons rI (aOne rI))) (rT K (aCons rI (aOne rI)))
section
variable {P : Program} {w : World} {K : PySem.W.Frag} {mg : Str → Option Value} {base : Heap}
theorem g_fraction_of (T : Tx mg base) (D0 : Dk P w K mg base "common_divisor" "common_divisor" t_common_divisor 1 ["one", "other"] (sp_common_divisor K)) {f : Addr} {fd : FuncData} (F : Fun K "fraction_of" "fraction_of" t_fraction_of f fd) : FnG P w K mg base CX0 2 f fd ["above", "below"] (sp_fraction_of K) := by
  obtain ⟨f0, fd0, F0, m0, G0, b0⟩ := D0
  refine okG0 F sc_fraction_of (fun vs H Q E h => ?_) (fun cdv A outer s0_ H0 vs Q E hr gd h => ?_)
  · obtain ⟨_, _, _, _, _, _, _, _, ⟨_, _, rfl, _, ⟨_, rfl, _⟩⟩, _⟩ := h
    rfl
  · obtain ⟨_, a, S0, s0, r, s', e0, p0, ⟨_, _, rfl, rfl, ⟨_, rfl, rfl⟩⟩, hm0, fin0⟩ := h
    obtain ⟨p_above, p_below⟩ := a
    have fin : ∀ v {H' : Hp}, (∃ S', Gm (pt0).M S0 H0 S' H' ∧ PotAt pt0 s' S' H' ∧ (rT K (aCons rI (aOne rI))) r v S') → Q v H' := fun v {H'} ⟨S', h1, h2, h3⟩ => fin0 v S' H' h1 h2 h3
    have w0 : Wd pt0 S0 H0 S0 H0 [] := Wd.start e0
    have hm0 : Mir.run (m_fraction_of p_above p_below) s0 = some (r, s') := hm0
    unfold m_fraction_of at hm0
    have sc := sc_fraction_of
    refine ⟨_, pss_cons (ps_set (i := 2) sc.nd rfl (by first | exact Or.inl rfl | exact Or.inr rfl) (pe_cG G0 (hr.mono (by decide)) gd rfl m0 F0.kp b0 pass0 (pa_cons (pv 0) (pa_cons (pv 1) (pa_nil))))) (pss_cons (ps_ret (pe_tup (pa_cons (pe_op op_fdivW (pv 0) (pv 2)) (pa_cons (pe_op op_fdivW (pv 1) (pv 2)) (pa_nil))))) (pss_nil)), ?_⟩
    refine q_set (fun v => [some (.int p_above), some (.int p_below), some v]) (fun _ => rfl) w0 p0 (Ev.eta (e_call (E := E0) (fm := fm_common_divisor) (R := rI) (a_cons (e_var (R := rI) rfl rfl) (a_one (e_var (R := rI) rfl rfl))))) hm0 ?_
    intro divisor1 vdivisor9 S2 H3 s4 w5 p6 g8 rdivisor10 hm7
    cases (show vdivisor9 = .int divisor1 from rdivisor10)
    refine q_ret w5 p6 (e_tup (K := K) (a_cons (e_fdiv (e_var (R := rI) rfl rfl) (e_var (R := rI) rfl rfl)) (a_one (e_fdiv (e_var (R := rI) rfl rfl) (e_var (R := rI) rfl rfl)))) (arN_cons arN_one) (by decide)) hm7 ?_
    intro r18 v19 S11 H12 s13 w14 p15 g17 rr20 hm16
    cases run_of_pure hm16
    exact fin _ ⟨S11, w14.g, p15, rr20⟩
end
abbrev t_share_of : Stmt := top 39
theorem sc_share_of : FnScope ["number"] ["number"] (defScope t_share_of) := ⟨rfl, rfl, rfl, by decide +kernel, rfl, by decide +kernel, by decide +kernel⟩
@[irreducible] noncomputable def m_share_of (p_number : Int) : Option (Int × Int) :=
Mir.lft (m_divisor_sum p_number (1 : Int)) >>= fun r12 => Mir.lft (m_fraction_of r12 p_number) >>= fun r11 => bnd r11 fun r8 => pure r8
noncomputable abbrev fm_share_of : (Int) → Option (Int × Int) := fun a => m_share_of a
abbrev sp_share_of (K : PySem.W.Frag) : Sp := spV F0 fm_share_of (fun _ => (aOne rI)) (rT K (aCons rI (aOne rI)))
section
variable {P : Program} {w : World} {K : PySem.W.Frag} {mg : Str → Option Value} {base : Heap}
theorem g_share_of (T : Tx mg base) (D0 : Dk P w K mg base "fraction_of" "fraction_of" t_fraction_of 2 ["above", "below"] (sp_fraction_of K)) (D1 : Dk P w K mg base "divisor_sum" "divisor_sum" t_divisor_sum 5 ["number", "k"] (sp_divisor_sum K)) {f : Addr} {fd : FuncData} (F : Fun K "share_of" "share_of" t_share_of f fd) : FnG P w K mg base CX0 6 f fd ["number"] (sp_share_of K) := by
  obtain ⟨f0, fd0, F0, m0, G0, b0⟩ := D0
  obtain ⟨f1, fd1, F1, m1, G1, b1⟩ := D1
  refine okG0 F sc_share_of (fun vs H Q E h => ?_) (fun cdv A outer s0_ H0 vs Q E hr gd h => ?_)
  · obtain ⟨_, _, _, _, _, _, _, _, ⟨_, rfl, _⟩, _⟩ := h
    rfl
  · obtain ⟨_, p_number, S0, s0, r, s', e0, p0, ⟨_, rfl, rfl⟩, hm0, fin0⟩ := h
    have fin : ∀ v {H' : Hp}, (∃ S', Gm (pt0).M S0 H0 S' H' ∧ PotAt pt0 s' S' H' ∧ (rT K (aCons rI (aOne rI))) r v S') → Q v H' := fun v {H'} ⟨S', h1, h2, h3⟩ => fin0 v S' H' h1 h2 h3
    have w0 : Wd pt0 S0 H0 S0 H0 [] := Wd.start e0
    have hm0 : Mir.run (m_share_of p_number) s0 = some (r, s') := hm0
    unfold m_share_of at hm0
    have sc := sc_share_of
    refine ⟨_, pss_cons (ps_ret (pe_cG G0 (hr.mono (by decide)) gd rfl m0 F0.kp b0 pass0 (pa_cons (pe_cG G1 (hr.mono (by decide)) gd rfl m1 F1.kp b1 pass0 (pa_cons (pv 0) (pa_cons (pe_int) (pa_nil)))) (pa_cons (pv 0) (pa_nil))))) (pss_nil), ?_⟩
    refine q_ret w0 p0 (Ev.eta (e_call (E := E0) (fm := fm_fraction_of) (R := (rT K (aCons rI (aOne rI)))) (a_cons (Ev.eta (e_call (E := E0) (fm := fm_divisor_sum) (R := rI) (a_cons (e_var (R := rI) rfl rfl) (a_one e_cI)))) (a_one (e_var (R := rI) rfl rfl))))) hm0 ?_
    intro r8 v9 S1 H2 s3 w4 p5 g7 rr10 hm6
    cases run_of_pure hm6
    exact fin _ ⟨S1, w4.g, p5, rr10⟩
end
abbrev t_often_as_much : Stmt := top 40
theorem sc_often_as_much : FnScope ["number", "above", "below"] ["number"] (defScope t_often_as_much) := ⟨rfl, rfl, rfl, by decide +kernel, rfl, by decide +kernel, by decide +kernel⟩
@[irreducible] noncomputable def m_often_as_much (p_number : Int) : Option (Option Int) :=
Mir.lft (m_share_of p_number) >>= fun r20 => bnd r20 fun t1 =>
bnd (if (decide (t1.2 = (1 : Int))) = true then (some t1.1) else none) fun r17 => pure r17
noncomputable abbrev fm_often_as_much : (Int) → Option (Option Int) := fun a => m_often_as_much a
abbrev sp_often_as_much (K : PySem.W.Frag) : Sp := spV F0 fm_often_as_much (fun _ => (aOne rI)) (rO rI)
section
variable {P : Program} {w : World} {K : PySem.W.Frag} {mg : Str → Option Value} {base : Heap}
theorem g_often_as_much (T : Tx mg base) (D0 : Dk P w K mg base "share_of" "share_of" t_share_of 6 ["number"] (sp_share_of K)) {f : Addr} {fd : FuncData} (F : Fun K "often_as_much" "often_as_much" t_often_as_much f fd) : FnG P w K mg base CX0 7 f fd ["number"] (sp_often_as_much K) := by
  obtain ⟨f0, fd0, F0, m0, G0, b0⟩ := D0
  refine okG0 F sc_often_as_much (fun vs H Q E h => ?_) (fun cdv A outer s0_ H0 vs Q E hr gd h => ?_)
  · obtain ⟨_, _, _, _, _, _, _, _, ⟨_, rfl, _⟩, _⟩ := h
    rfl
  · obtain ⟨_, p_number, S0, s0, r, s', e0, p0, ⟨_, rfl, rfl⟩, hm0, fin0⟩ := h
    have fin : ∀ v {H' : Hp}, (∃ S', Gm (pt0).M S0 H0 S' H' ∧ PotAt pt0 s' S' H' ∧ (rO rI) r v S') → Q v H' := fun v {H'} ⟨S', h1, h2, h3⟩ => fin0 v S' H' h1 h2 h3
    have w0 : Wd pt0 S0 H0 S0 H0 [] := Wd.start e0
    have hm0 : Mir.run (m_often_as_much p_number) s0 = some (r, s') := hm0
    unfold m_often_as_much at hm0
    have sc := sc_often_as_much
    refine ⟨_, pss_cons (ps_asg (pe_cG G0 (hr.mono (by decide)) gd rfl m0 F0.kp b0 pass0 (pa_cons (pv 0) (pa_nil))) (k_gt K (pgs_cons (pg_name (i := 1) sc.nd rfl (by first | exact Or.inl rfl | exact Or.inr rfl)) (pgs_cons (pg_name (i := 2) sc.nd rfl (by first | exact Or.inl rfl | exact Or.inr rfl)) (pgs_nil))))) (pss_cons (ps_ret (pe_ifExp (pt_cmpR op_eq (pv 2) (pe_int) (nomark _)) (pv 1) (pe_non))) (pss_nil)), ?_⟩
    refine q_unp w0 p0 (Ev.eta (e_call (E := E0) (fm := fm_share_of) (R := (rT K (aCons rI (aOne rI)))) (a_one (e_var (R := rI) rfl rfl)))) (g_tp (gq_cons (g_nm (R := rI)) (gq_one (g_nm (R := rI))))) hm0 ?_
    intro t1 σ9 S2 H3 s4 w5 p6 g8 hp hm7
    obtain ⟨_, ⟨_, rfl, rfl⟩, ⟨_, rfl, rfl⟩⟩ := hp
    refine q_ret w5 p6 (e_ifT (R := (rO rI)) (t_Test (e_eq (e_var (R := rI) rfl rfl) e_cI)) (Ev.some (e_var (R := rI) rfl rfl)) (Ev.none (R := rI) e_cN)) hm7 ?_
    intro r17 v18 S10 H11 s12 w13 p14 g16 rr19 hm15
    cases run_of_pure hm15
    exact fin _ ⟨S10, w13.g, p14, rr19⟩
end
abbrev t_power_sum : Stmt := top 41
theorem sc_power_sum : FnScope ["p", "often", "found", "step"] ["p", "often"] (defScope t_power_sum) := ⟨rfl, rfl, rfl, by decide +kernel, rfl, by decide +kernel, by decide +kernel⟩
@[irreducible] noncomputable def m_power_sum (p_p : Int) (p_often : Int) : Option Int :=
bnd (1 : Int) fun found1 =>
Mir.lft (grd (RgB p_often)) >>= fun _ => (lpS (rng 0 p_often) (fun (x13 : Int) (st11 : Int) =>
Mir.lft (grd (Sm st11 ∧ Sm p_p)) >>= fun _ => bnd ((st11 * p_p) + (1 : Int)) fun found52 =>
pure found52) found1) >>= fun (st11 : Int) =>
bnd st11 fun r77 => pure r77
noncomputable abbrev fm_power_sum : (Int × Int) → Option Int := fun (a0, a1) => m_power_sum a0 a1
abbrev sp_power_sum (K : PySem.W.Frag) : Sp := spV F0 fm_power_sum (fun _ => (aCons rI (aOne rI))) rI
section
variable {P : Program} {w : World} {K : PySem.W.Frag} {mg : Str → Option Value} {base : Heap}
theorem g_power_sum (T : Tx mg base)  {f : Addr} {fd : FuncData} (F : Fun K "power_sum" "power_sum" t_power_sum f fd) : FnG P w K mg base CX0 1 f fd ["p", "often"] (sp_power_sum K) := by
  refine okG0 F sc_power_sum (fun vs H Q E h => ?_) (fun cdv A outer s0_ H0 vs Q E hr gd h => ?_)
  · obtain ⟨_, _, _, _, _, _, _, _, ⟨_, _, rfl, _, ⟨_, rfl, _⟩⟩, _⟩ := h
    rfl
  · obtain ⟨_, a, S0, s0, r, s', e0, p0, ⟨_, _, rfl, rfl, ⟨_, rfl, rfl⟩⟩, hm0, fin0⟩ := h
    obtain ⟨p_p, p_often⟩ := a
    have fin : ∀ v {H' : Hp}, (∃ S', Gm (pt0).M S0 H0 S' H' ∧ PotAt pt0 s' S' H' ∧ rI r v S') → Q v H' := fun v {H'} ⟨S', h1, h2, h3⟩ => fin0 v S' H' h1 h2 h3
    have w0 : Wd pt0 S0 H0 S0 H0 [] := Wd.start e0
    have hm0 : Mir.run (m_power_sum p_p p_often) s0 = some (r, s') := hm0
    unfold m_power_sum at hm0
    have sc := sc_power_sum
    refine ⟨_, pss_cons (ps_set (i := 2) sc.nd rfl (by first | exact Or.inl rfl | exact Or.inr rfl) (pe_int)) (pss_cons (ps_for PassesOwn.never rfl (pi_range1 rfl T.n_range (pa_cons (pv 1) pa_nil)) (pg_name (i := 3) sc.nd rfl (by first | exact Or.inl rfl | exact Or.inr rfl)) (pss_cons (ps_set (i := 2) sc.nd rfl (by first | exact Or.inl rfl | exact Or.inr rfl) (pe_op op_add (pe_op op_mulX (pv 2) (pv 0)) (pe_int))) (pss_nil))) (pss_cons (ps_ret (pv 2)) (pss_nil))), ?_⟩
    refine q_set (fun v => [some (.int p_p), some (.int p_often), some v, none]) (fun _ => rfl) w0 p0 e_cI hm0 ?_
    intro found1 vfound9 S2 H3 s4 w5 p6 g8 rfound10 hm7
    cases (show vfound9 = .int found1 from rfound10)
    refine q_for (p := pt0) w5 p6 (i_R1 (e_var (R := rI) rfl rfl)) (g_nm (R := rI)) hm7 (fun Sb12 st11 σ S' H' s' => Ex Sb12 S' ∧ (∃ (xstep_ : Option V), σ = [some (.int p_p), some (.int p_often), some (.int st11), xstep_] ∧ Wd pt0 S0 H0 S' H' [] ∧ PotAt pt0 s' S' H' ∧ Ex S2 S')) ?_ ?_ ?_ ?_ ?_
    · intro S14 H15 s16 w17 p18 g19
      exact ⟨Ex.rf, ⟨_, rfl, w17, p18, g19.s⟩⟩
    · rintro Sb12 st11 _ S24 H25 s26 ⟨ex27, ⟨xstep20, rfl, w21, p22, eb23⟩⟩
      exact ⟨ex27, w21.i, p22, ownOk0⟩
    · rintro Sb12 st11 _ S32 H33 s34 S35 H36 ⟨ex38, ⟨xstep28, rfl, w29, p30, eb31⟩⟩ g37
      exact ⟨ex38.tr g37.s, _, rfl, w29.go (Gm.up g37), PotAt.go p30 g37, eb31.tr g37.s⟩
    · rintro Sb12 x13 st11 _ σ51 S43 H44 s45 st11_ s2_ D_ ⟨ex50, ⟨xstep39, rfl, w40, p41, eb42⟩⟩ hp hm46 nx47
      obtain ⟨_, rfl, rfl⟩ := hp
      refine q_set (fun v => [some (.int p_p), some (.int p_often), some v, some (.int x13)]) (fun _ => rfl) w40 p41 (e_add (e_mul (e_var (R := rI) rfl rfl) (e_var (R := rI) rfl rfl)) e_cI) hm46 ?_
      intro found52 vfound60 S53 H54 s55 w56 p57 g59 rfound61 hm58
      cases (show vfound60 = .int found52 from rfound61)
      have eb42 := eb42.tr g59.s
      have ex50 := ex50.tr g59.s
      cases run_of_pure hm58
      exact (nx47 _ _ _ ⟨ex50, ⟨_, rfl, w56, p57, eb42⟩⟩).1
    · rintro Sb12 st11 _ S66 H67 s68 ⟨_, ⟨xstep62, rfl, w63, p64, eb65⟩⟩ hm69
      refine q_ret w63 p64 (e_var (R := rI) rfl rfl) hm69 ?_
      intro r77 v78 S70 H71 s72 w73 p74 g76 rr79 hm75
      cases run_of_pure hm75
      exact fin _ ⟨S70, w73.g, p74, rr79⟩
end
abbrev t_prime_shares : Stmt := top 42
theorem sc_prime_shares : FnScope ["number", "p", "often"] ["number"] (defScope t_prime_shares) := ⟨rfl, rfl, rfl, by decide +kernel, rfl, by decide +kernel, by decide +kernel⟩
@[irreducible] noncomputable def m_prime_shares (p_number : Int) : Option (List (Int × Int)) :=
Mir.lft (m_primes_of p_number) >>= fun r21 => Mir.lft (grd (List.length r21 ≤ 16000000)) >>= fun _ => cmp r21 (fun x1 => Mir.lft (m_power_sum x1.1 x1.2) >>= fun r8 => Mir.lft (m_power_of x1.1 x1.2) >>= fun r9 => Mir.lft (m_fraction_of r8 r9) >>= fun r7 => pure (some r7)) >>= fun l20 => bnd l20 fun r17 => pure r17
noncomputable abbrev fm_prime_shares : (Int) → Option (List (Int × Int)) := fun a => m_prime_shares a
abbrev sp_prime_shares (K : PySem.W.Frag) : Sp := spV F0 fm_prime_shares (fun _ => (aOne rI)) (rT K (aAll (rT K (aCons rI (aOne rI)))))
section
variable {P : Program} {w : World} {K : PySem.W.Frag} {mg : Str → Option Value} {base : Heap}
theorem g_prime_shares (T : Tx mg base) (D0 : Dk P w K mg base "primes_of" "primes_of" t_primes_of 4 ["number"] (sp_primes_of K)) (D1 : Dk P w K mg base "fraction_of" "fraction_of" t_fraction_of 2 ["above", "below"] (sp_fraction_of K)) (D2 : Dk P w K mg base "power_sum" "power_sum" t_power_sum 1 ["p", "often"] (sp_power_sum K)) (D3 : Dk P w K mg base "power_of" "power_of" t_power_of 1 ["base", "often"] (sp_power_of K)) {f : Addr} {fd : FuncData} (F : Fun K "prime_shares" "prime_shares" t_prime_shares f fd) : FnG P w K mg base CX0 5 f fd ["number"] (sp_prime_shares K) := by
  obtain ⟨f0, fd0, F0, m0, G0, b0⟩ := D0
  obtain ⟨f1, fd1, F1, m1, G1, b1⟩ := D1
  obtain ⟨f2, fd2, F2, m2, G2, b2⟩ := D2
  obtain ⟨f3, fd3, F3, m3, G3, b3⟩ := D3
  refine okG0 F sc_prime_shares (fun vs H Q E h => ?_) (fun cdv A outer s0_ H0 vs Q E hr gd h => ?_)
  · obtain ⟨_, _, _, _, _, _, _, _, ⟨_, rfl, _⟩, _⟩ := h
    rfl
  · obtain ⟨_, p_number, S0, s0, r, s', e0, p0, ⟨_, rfl, rfl⟩, hm0, fin0⟩ := h
    have fin : ∀ v {H' : Hp}, (∃ S', Gm (pt0).M S0 H0 S' H' ∧ PotAt pt0 s' S' H' ∧ (rT K (aAll (rT K (aCons rI (aOne rI))))) r v S') → Q v H' := fun v {H'} ⟨S', h1, h2, h3⟩ => fin0 v S' H' h1 h2 h3
    have w0 : Wd pt0 S0 H0 S0 H0 [] := Wd.start e0
    have hm0 : Mir.run (m_prime_shares p_number) s0 = some (r, s') := hm0
    unfold m_prime_shares at hm0
    have sc := sc_prime_shares
    refine ⟨_, pss_cons (ps_ret (pe_callTy (k_tupOf K) (by rfl) T.n_tuple (by decide +kernel) (pa_cons (pe_lc (own := [("p", 1), ("often", 2)]) (g := (gTup K 2 (gCons (gName 1) (gCons (gName 2) gNil)))) (tt := tYes) rfl sc.nd (k_pit K (pe_cG G0 (hr.mono (by decide)) gd rfl m0 F0.kp b0 pass0 (pa_cons (pv 0) (pa_nil)))) (blkOk_by (N := ["number", "p", "often"]) (sc := defScope t_prime_shares) (by decide +kernel)) (fun _ _ _ _ _ => k_gt K (pgs_cons (pg_name (i := 1) sc.nd rfl (by first | exact Or.inl rfl | exact Or.inr rfl)) (pgs_cons (pg_name (i := 2) sc.nd rfl (by first | exact Or.inl rfl | exact Or.inr rfl)) (pgs_nil)))) (fun _ _ _ _ _ => pts_nil) (fun _ _ _ _ _ => pe_cG G1 (hr.mono (by decide)) gd rfl m1 F1.kp b1 pass0 (pa_cons (pe_cG G2 (hr.mono (by decide)) gd rfl m2 F2.kp b2 pass0 (pa_cons (pv 1) (pa_cons (pv 2) (pa_nil)))) (pa_cons (pe_cG G3 (hr.mono (by decide)) gd rfl m3 F3.kp b3 pass0 (pa_cons (pv 1) (pa_cons (pv 2) (pa_nil)))) (pa_nil))))) pa_nil))) (pss_nil), ?_⟩
    refine q_ret w0 p0 (c_tup (K := K) (EvL.rd (l_lc1 (γ := (Int × Int)) (vs := [1, 2]) (me := fun x1 k => Mir.lft (m_power_sum x1.1 x1.2) >>= fun r5 => Mir.lft (m_power_of x1.1 x1.2) >>= fun r6 => Mir.lft (m_fraction_of r5 r6) >>= fun r4 => k r4) (R' := (rT K (aCons rI (aOne rI)))) (i_T (Ev.eta (e_call (E := E0) (fm := fm_primes_of) (R := (rT K (aAll (rT K (aCons rI (aOne rI)))))) (a_one (e_var (R := rI) rfl rfl))))) ownOk0 (g_tp (gq_cons (g_nm (R := rI)) (gq_one (g_nm (R := rI))))) (fun x σ' S hp => by obtain ⟨_, ⟨_, rfl, _⟩, ⟨_, rfl, _⟩⟩ := hp; rfl) (fun x1 σ' S1 H1 g2 hp => by have w3 := w0.go g2; obtain ⟨_, ⟨_, rfl, rfl⟩, ⟨_, rfl, rfl⟩⟩ := hp; exact (Ev.eta (e_call (E := E0) (fm := fm_fraction_of) (R := (rT K (aCons rI (aOne rI)))) (a_cons (Ev.eta (e_call (E := E0) (fm := fm_power_sum) (R := rI) (a_cons (e_var (R := rI) rfl rfl) (a_one (e_var (R := rI) rfl rfl))))) (a_one (Ev.eta (e_call (E := E0) (fm := fm_power_of) (R := rI) (a_cons (e_var (R := rI) rfl rfl) (a_one (e_var (R := rI) rfl rfl)))))))))) (pm_cons pm_nm pm_nm)))) hm0 ?_
    intro r17 v18 S10 H11 s12 w13 p14 g16 rr19 hm15
    cases run_of_pure hm15
    exact fin _ ⟨S10, w13.g, p14, rr19⟩
end
abbrev t_are_friends : Stmt := top 43
theorem sc_are_friends : FnScope ["one", "other"] ["one", "other"] (defScope t_are_friends) := ⟨rfl, rfl, rfl, by decide +kernel, rfl, by decide +kernel, by decide +kernel⟩
@[irreducible] noncomputable def m_are_friends (p_one : Int) (p_other : Int) : Option Bool :=
(if (!decide (p_one = p_other)) = true then Mir.lft (m_share_of p_one) >>= fun r12 => Mir.lft (m_share_of p_other) >>= fun r13 => pure (decide (r12 = r13)) else pure false) >>= fun b11 => bnd b11 fun r8 => pure r8
noncomputable abbrev fm_are_friends : (Int × Int) → Option Bool := fun (a0, a1) => m_are_friends a0 a1
abbrev sp_are_friends (K : PySem.W.Frag) : Sp := spV F0 fm_are_friends (fun _ => (aCons rI (aOne rI))) rB
section
variable {P : Program} {w : World} {K : PySem.W.Frag} {mg : Str → Option Value} {base : Heap}
theorem g_are_friends (T : Tx mg base) (D0 : Dk P w K mg base "share_of" "share_of" t_share_of 6 ["number"] (sp_share_of K)) {f : Addr} {fd : FuncData} (F : Fun K "are_friends" "are_friends" t_are_friends f fd) : FnG P w K mg base CX0 7 f fd ["one", "other"] (sp_are_friends K) := by
  obtain ⟨f0, fd0, F0, m0, G0, b0⟩ := D0
  refine okG0 F sc_are_friends (fun vs H Q E h => ?_) (fun cdv A outer s0_ H0 vs Q E hr gd h => ?_)
  · obtain ⟨_, _, _, _, _, _, _, _, ⟨_, _, rfl, _, ⟨_, rfl, _⟩⟩, _⟩ := h
    rfl
  · obtain ⟨_, a, S0, s0, r, s', e0, p0, ⟨_, _, rfl, rfl, ⟨_, rfl, rfl⟩⟩, hm0, fin0⟩ := h
    obtain ⟨p_one, p_other⟩ := a
    have fin : ∀ v {H' : Hp}, (∃ S', Gm (pt0).M S0 H0 S' H' ∧ PotAt pt0 s' S' H' ∧ rB r v S') → Q v H' := fun v {H'} ⟨S', h1, h2, h3⟩ => fin0 v S' H' h1 h2 h3
    have w0 : Wd pt0 S0 H0 S0 H0 [] := Wd.start e0
    have hm0 : Mir.run (m_are_friends p_one p_other) s0 = some (r, s') := hm0
    unfold m_are_friends at hm0
    have sc := sc_are_friends
    refine ⟨_, pss_cons (ps_ret (pe_and (pe_cmpR op_ne (pv 0) (pv 1) (nomark _)) (pe_one (pe_cmpR (k_eqD K hr) (pe_cG G0 (hr.mono (by decide)) gd rfl m0 F0.kp b0 pass0 (pa_cons (pv 0) (pa_nil))) (pe_cG G0 (hr.mono (by decide)) gd rfl m0 F0.kp b0 pass0 (pa_cons (pv 1) (pa_nil))) (nomark _))))) (pss_nil), ?_⟩
    refine q_ret w0 p0 (e_and (e_ne (e_var (R := rI) rfl rfl) (e_var (R := rI) rfl rfl)) (e_eqQ (q_T (qs_cons q_I (qs_one q_I))) (by decide) (Ev.Q (Ev.eta (e_call (E := E0) (fm := fm_share_of) (R := (rT K (aCons rI (aOne rI)))) (a_one (e_var (R := rI) rfl rfl)))) (d_T (ds_cons d_I (ds_one d_I)))) (Ev.Q (Ev.eta (e_call (E := E0) (fm := fm_share_of) (R := (rT K (aCons rI (aOne rI)))) (a_one (e_var (R := rI) rfl rfl)))) (d_T (ds_cons d_I (ds_one d_I)))))) hm0 ?_
    intro r8 v9 S1 H2 s3 w4 p5 g7 rr10 hm6
    cases run_of_pure hm6
    exact fin _ ⟨S1, w4.g, p5, rr10⟩
end
abbrev t_is_seen_alone : Stmt := top 44
theorem sc_is_seen_alone : FnScope ["number"] ["number"] (defScope t_is_seen_alone) := ⟨rfl, rfl, rfl, by decide +kernel, rfl, by decide +kernel, by decide +kernel⟩
@[irreducible] noncomputable def m_is_seen_alone (p_number : Int) : Option Bool :=
Mir.lft (m_divisor_sum p_number (1 : Int)) >>= fun r12 => Mir.lft (m_common_divisor r12 p_number) >>= fun r11 => bnd (decide (r11 = (1 : Int))) fun r8 => pure r8
noncomputable abbrev fm_is_seen_alone : (Int) → Option Bool := fun a => m_is_seen_alone a
abbrev sp_is_seen_alone (K : PySem.W.Frag) : Sp := spV F0 fm_is_seen_alone (fun _ => (aOne rI)) rB
section
variable {P : Program} {w : World} {K : PySem.W.Frag} {mg : Str → Option Value} {base : Heap}
theorem g_is_seen_alone (T : Tx mg base) (D0 : Dk P w K mg base "common_divisor" "common_divisor" t_common_divisor 1 ["one", "other"] (sp_common_divisor K)) (D1 : Dk P w K mg base "divisor_sum" "divisor_sum" t_divisor_sum 5 ["number", "k"] (sp_divisor_sum K)) {f : Addr} {fd : FuncData} (F : Fun K "is_seen_alone" "is_seen_alone" t_is_seen_alone f fd) : FnG P w K mg base CX0 6 f fd ["number"] (sp_is_seen_alone K) := by
  obtain ⟨f0, fd0, F0, m0, G0, b0⟩ := D0
  obtain ⟨f1, fd1, F1, m1, G1, b1⟩ := D1
  refine okG0 F sc_is_seen_alone (fun vs H Q E h => ?_) (fun cdv A outer s0_ H0 vs Q E hr gd h => ?_)
  · obtain ⟨_, _, _, _, _, _, _, _, ⟨_, rfl, _⟩, _⟩ := h
    rfl
  · obtain ⟨_, p_number, S0, s0, r, s', e0, p0, ⟨_, rfl, rfl⟩, hm0, fin0⟩ := h
    have fin : ∀ v {H' : Hp}, (∃ S', Gm (pt0).M S0 H0 S' H' ∧ PotAt pt0 s' S' H' ∧ rB r v S') → Q v H' := fun v {H'} ⟨S', h1, h2, h3⟩ => fin0 v S' H' h1 h2 h3
    have w0 : Wd pt0 S0 H0 S0 H0 [] := Wd.start e0
    have hm0 : Mir.run (m_is_seen_alone p_number) s0 = some (r, s') := hm0
    unfold m_is_seen_alone at hm0
    have sc := sc_is_seen_alone
    refine ⟨_, pss_cons (ps_ret (pe_cmpR op_eq (pe_cG G0 (hr.mono (by decide)) gd rfl m0 F0.kp b0 pass0 (pa_cons (pe_cG G1 (hr.mono (by decide)) gd rfl m1 F1.kp b1 pass0 (pa_cons (pv 0) (pa_cons (pe_int) (pa_nil)))) (pa_cons (pv 0) (pa_nil)))) (pe_int) (nomark _))) (pss_nil), ?_⟩
    refine q_ret w0 p0 (e_eq (Ev.eta (e_call (E := E0) (fm := fm_common_divisor) (R := rI) (a_cons (Ev.eta (e_call (E := E0) (fm := fm_divisor_sum) (R := rI) (a_cons (e_var (R := rI) rfl rfl) (a_one e_cI)))) (a_one (e_var (R := rI) rfl rfl))))) e_cI) hm0 ?_
    intro r8 v9 S1 H2 s3 w4 p5 g7 rr10 hm6
    cases run_of_pure hm6
    exact fin _ ⟨S1, w4.g, p5, rr10⟩
end
abbrev t__law_of : Stmt := top 47
theorem sc__law_of : FnScope ["pot", "many", "number", "cell"] ["pot", "many"] (defScope t__law_of) := ⟨rfl, rfl, rfl, by decide +kernel, rfl, by decide +kernel, by decide +kernel⟩
@[irreducible] noncomputable def m__law_of (p_many : Int) : PM PotT Int :=
if (decide (p_many < (2 : Int))) = true then
(bnd (0 : Int) fun r15 => pure r15)
else
(potS >>= fun s26 => if (neG s26) = true then
(popL >>= fun c35 => bnd c35 fun cell36 =>
((if (decide (p_many ≤ cell36)) = true then
(Mir.lft (grd (Dv p_many)) >>= fun _ => potS >>= fun s57 => Mir.lft (grd (s57.great.length < 16000000)) >>= fun _ => potW (fun s => { s with great := s.great ++ [(cell36 / p_many)] }) >>= fun _ => pure ())
else
(pure ())) >>= fun (st46 : Unit) =>
Mir.lft (grd (0 < p_many)) >>= fun _ => bnd (cell36 % p_many) fun r89 => pure r89))
else
(potS >>= fun s99 => potW (fun s => { s with turn := ((PotT.turn s99) + (1 : Int)) }) >>= fun _ =>
potS >>= fun s107 => potS >>= fun s108 => Mir.lft (grd (Sm (PotT.turn s108) ∧ Sm (2654435761 : Int))) >>= fun _ => Mir.lft (grd (0 < (4294967279 : Int))) >>= fun _ => bnd (((PotT.mix s107) + ((PotT.turn s108) * (2654435761 : Int))) % (4294967279 : Int)) fun number109 =>
Mir.lft (grd (Sm number109 ∧ Sm number109)) >>= fun _ => potS >>= fun s119 => Mir.lft (grd (Sm (PotT.turn s119) ∧ Sm (40503 : Int))) >>= fun _ => Mir.lft (grd (0 < (4294967231 : Int))) >>= fun _ => bnd ((((number109 * number109) + ((PotT.turn s119) * (40503 : Int))) + (5 : Int)) % (4294967231 : Int)) fun number120 =>
Mir.lft (grd (Sm number120 ∧ Sm number120)) >>= fun _ => potS >>= fun s130 => Mir.lft (grd (0 < (4294967291 : Int))) >>= fun _ => bnd (((number120 * number120) + (PotT.mix s130)) % (4294967291 : Int)) fun number131 =>
Mir.lft (grd (Dv (256 : Int))) >>= fun _ => Mir.lft (grd (0 < p_many)) >>= fun _ => bnd ((number131 / (256 : Int)) % p_many) fun r148 => pure r148))
noncomputable abbrev fm__law_of : (Unit × Int) → PM PotT Int := fun (_, a1) => m__law_of a1
abbrev sp__law_of (K : PySem.W.Frag) : Sp := spV (fun i => potPt i) fm__law_of (fun i => (aCons (rP i) (aOne rI))) rI
section
variable {P : Program} {w : World} {K : PySem.W.Frag} {mg : Str → Option Value} {base : Heap}
theorem g__law_of (T : Tx mg base)  {f : Addr} {fd : FuncData} (F : Fun K "_law_of" "_law_of" t__law_of f fd) : FnG P w K mg base CX0 1 f fd ["pot", "many"] (sp__law_of K) := by
  refine okG0 F sc__law_of (fun vs H Q E h => ?_) (fun cdv A outer s0_ H0 vs Q E hr gd h => ?_)
  · obtain ⟨_, _, _, _, _, _, _, _, ⟨_, _, rfl, _, ⟨_, rfl, _⟩⟩, _⟩ := h
    rfl
  · obtain ⟨i, a, S0, s0, r, s', e0, p0, ⟨_, _, rfl, rfl, ⟨_, rfl, rfl⟩⟩, hm0, fin0⟩ := h
    obtain ⟨_, p_many⟩ := a
    have fin : ∀ v {H' : Hp}, (∃ S', Gm ((potPt i)).M S0 H0 S' H' ∧ PotAt (potPt i) s' S' H' ∧ rI r v S') → Q v H' := fun v {H'} ⟨S', h1, h2, h3⟩ => fin0 v S' H' h1 h2 h3
    have w0 : Wd (potPt i) S0 H0 S0 H0 [] := Wd.start e0
    have hm0 : Mir.run (m__law_of p_many) s0 = some (r, s') := hm0
    unfold m__law_of at hm0
    have sc := sc__law_of
    refine ⟨_, pss_cons (ps_if (pt_cmpR op_lt (pv 1) (pe_int) (nomark _)) (pss_cons (ps_ret (pe_int)) (pss_nil)) (pss_nil)) (pss_cons (ps_if (pt_cmpR (k_neD K hr) (pe_ix (k_ixL K) (pv 0) (pe_int) (fun _ _ => rfl)) (pe_lst pa_nil) (nomark _)) (pss_cons (ps_set (i := 3) sc.nd rfl (by first | exact Or.inl rfl | exact Or.inr rfl) (pe_bm0 PySem.F.plainAttrs_list PySem.F.slot_list_pop PySem.F.type_list_pop mt_pop (pe_ix (k_ixL K) (pv 0) (pe_int) (fun _ _ => rfl)))) (pss_cons (ps_if (pt_cmpR op_ge (pv 3) (pv 1) (nomark _)) (pss_cons (ps_expr (pe_bm PySem.F.plainAttrs_list PySem.F.slot_list_append PySem.F.type_list_append mt_append (pe_ix (k_ixL K) (pv 0) (pe_int) (fun _ _ => rfl)) (pa_cons (pe_op op_fdivW (pv 3) (pv 1)) pa_nil))) (pss_nil)) (pss_nil)) (pss_cons (ps_ret (pe_op op_mod (pv 3) (pv 1))) (pss_nil)))) (pss_nil)) (pss_cons (ps_asg (pe_op op_add (pe_ix (k_ixL K) (pv 0) (pe_int) (fun _ _ => rfl)) (pe_int)) (pg_sub (pv 0) pe_int set_list)) (pss_cons (ps_set (i := 2) sc.nd rfl (by first | exact Or.inl rfl | exact Or.inr rfl) (pe_op op_mod (pe_op op_add (pe_ix (k_ixL K) (pv 0) (pe_int) (fun _ _ => rfl)) (pe_op op_mulX (pe_ix (k_ixL K) (pv 0) (pe_int) (fun _ _ => rfl)) (pe_int))) (pe_int))) (pss_cons (ps_set (i := 2) sc.nd rfl (by first | exact Or.inl rfl | exact Or.inr rfl) (pe_op op_mod (pe_op op_add (pe_op op_add (pe_op op_mulX (pv 2) (pv 2)) (pe_op op_mulX (pe_ix (k_ixL K) (pv 0) (pe_int) (fun _ _ => rfl)) (pe_int))) (pe_int)) (pe_int))) (pss_cons (ps_set (i := 2) sc.nd rfl (by first | exact Or.inl rfl | exact Or.inr rfl) (pe_op op_mod (pe_op op_add (pe_op op_mulX (pv 2) (pv 2)) (pe_ix (k_ixL K) (pv 0) (pe_int) (fun _ _ => rfl))) (pe_int))) (pss_cons (ps_ret (pe_op op_mod (pe_op op_fdivW (pv 2) (pe_int)) (pv 1))) (pss_nil))))))), ?_⟩
    refine q_if w0 p0 (t_Test (e_lt (e_var (R := rI) rfl rfl) e_cI)) hm0 ?_ ?_
    · intro S1 H2 s3 w4 p5 g6 hm7
      refine q_ret w4 p5 e_cI hm7 ?_
      intro r15 v16 S8 H9 s10 w11 p12 g14 rr17 hm13
      cases run_of_pure hm13
      exact fin _ ⟨S8, w11.g, p12, rr17⟩
    · intro S18 H19 s20 w21 p22 g23 hm24
      refine nx_done ?_
      refine q_if w21 p22 (t_Test (e_neG (dL_G rfl))) hm24 ?_ ?_
      · intro S27 H28 s29 w30 p31 g32 hm33
        refine q_set (fun v => [some (.ref i.a), some (.int p_many), none, some v]) (fun _ => rfl) w30 p31 (e_popL (dL_G rfl)) hm33 ?_
        intro cell36 vcell44 S37 H38 s39 w40 p41 g43 rcell45 hm42
        cases (show vcell44 = .int cell36 from rcell45)
        refine q_ifj (p := (potPt i)) (fun st46 σ S' H' s' => σ = [some (.ref i.a), some (.int p_many), none, some (.int cell36)] ∧ Wd (potPt i) S0 H0 S' H' [] ∧ PotAt (potPt i) s' S' H' ∧ Ex S37 S') w40 p41 (t_Test (e_ge (e_var (R := rI) rfl rfl) (e_var (R := rI) rfl rfl))) hm42 ?_ ?_ ?_
        · intro S47 H48 s49 st46_ s2_ D_ w50 p51 g52 hm53 nx54
          have eb55 := g52.s
          refine q_dropE w50 p51 (e_appG (dL_G rfl) (e_fdiv (e_var (R := rI) rfl rfl) (e_var (R := rI) rfl rfl))) hm53 ?_
          intro x65 S58 H59 s60 w61 p62 g64 hm63
          have eb55 := eb55.tr g64.s
          cases run_of_pure hm63
          exact nx54 _ _ _ ⟨rfl, w61, p62, eb55⟩
        · intro S66 H67 s68 st46_ s2_ D_ w69 p70 g71 hm72 nx73
          have eb74 := g71.s
          cases run_of_pure hm72
          exact nx73 _ _ _ ⟨rfl, w69, p70, eb74⟩
        · rintro st46 _ S78 H79 s80 ⟨rfl, w75, p76, eb77⟩ hm81
          refine q_ret w75 p76 (e_mod (e_var (R := rI) rfl rfl) (e_var (R := rI) rfl rfl)) hm81 ?_
          intro r89 v90 S82 H83 s84 w85 p86 g88 rr91 hm87
          cases run_of_pure hm87
          exact fin _ ⟨S82, w85.g, p86, rr91⟩
      · intro S92 H93 s94 w95 p96 g97 hm98
        refine nx_done ?_
        refine qL_T w95 p96 rfl (e_add (dL_T rfl) e_cI) hm98 ?_
        intro S100 H101 s102 w103 p104 g106 hm105
        refine q_set (fun v => [some (.ref i.a), some (.int p_many), some v, none]) (fun _ => rfl) w103 p104 (e_mod (e_add (dL_S rfl) (e_mul (dL_T rfl) e_cI)) e_cI) hm105 ?_
        intro number109 vnumber117 S110 H111 s112 w113 p114 g116 rnumber118 hm115
        cases (show vnumber117 = .int number109 from rnumber118)
        refine q_set (fun v => [some (.ref i.a), some (.int p_many), some v, none]) (fun _ => rfl) w113 p114 (e_mod (e_add (e_add (e_mul (e_var (R := rI) rfl rfl) (e_var (R := rI) rfl rfl)) (e_mul (dL_T rfl) e_cI)) e_cI) e_cI) hm115 ?_
        intro number120 vnumber128 S121 H122 s123 w124 p125 g127 rnumber129 hm126
        cases (show vnumber128 = .int number120 from rnumber129)
        refine q_set (fun v => [some (.ref i.a), some (.int p_many), some v, none]) (fun _ => rfl) w124 p125 (e_mod (e_add (e_mul (e_var (R := rI) rfl rfl) (e_var (R := rI) rfl rfl)) (dL_S rfl)) e_cI) hm126 ?_
        intro number131 vnumber139 S132 H133 s134 w135 p136 g138 rnumber140 hm137
        cases (show vnumber139 = .int number131 from rnumber140)
        refine q_ret w135 p136 (e_mod (e_fdiv (e_var (R := rI) rfl rfl) e_cI) (e_var (R := rI) rfl rfl)) hm137 ?_
        intro r148 v149 S141 H142 s143 w144 p145 g147 rr150 hm146
        cases run_of_pure hm146
        exact fin _ ⟨S141, w144.g, p145, rr150⟩
end
abbrev t__law_one : Stmt := top 48
theorem sc__law_one : FnScope ["pot", "items"] ["pot", "items"] (defScope t__law_one) := ⟨rfl, rfl, rfl, by decide +kernel, rfl, by decide +kernel, by decide +kernel⟩
@[irreducible] noncomputable def m__law_one (p_items : (List Int)) : PM PotT Int :=
m__law_of (List.length p_items : Int) >>= fun r12 => Mir.lft (L2.atI p_items r12) >>= fun y11 => bnd y11 fun r8 => pure r8
noncomputable abbrev fm__law_one : (Unit × (List Int)) → PM PotT Int := fun (_, a1) => m__law_one a1
abbrev sp__law_one (K : PySem.W.Frag) : Sp := spV (fun i => potPt i) fm__law_one (fun i => (aCons (rP i) (aOne (rL (aAll rI))))) rI
section
variable {P : Program} {w : World} {K : PySem.W.Frag} {mg : Str → Option Value} {base : Heap}
theorem g__law_one (T : Tx mg base) (D0 : Dk P w K mg base "_law_of" "_law_of" t__law_of 1 ["pot", "many"] (sp__law_of K)) {f : Addr} {fd : FuncData} (F : Fun K "_law_one" "_law_one" t__law_one f fd) : FnG P w K mg base CX0 2 f fd ["pot", "items"] (sp__law_one K) := by
  obtain ⟨f0, fd0, F0, m0, G0, b0⟩ := D0
  refine okG0 F sc__law_one (fun vs H Q E h => ?_) (fun cdv A outer s0_ H0 vs Q E hr gd h => ?_)
  · obtain ⟨_, _, _, _, _, _, _, _, ⟨_, _, rfl, _, ⟨_, rfl, _⟩⟩, _⟩ := h
    rfl
  · obtain ⟨i, a, S0, s0, r, s', e0, p0, ⟨_, _, rfl, rfl, ⟨v_items, rfl, r_items⟩⟩, hm0, fin0⟩ := h
    obtain ⟨_, p_items⟩ := a
    have fin : ∀ v {H' : Hp}, (∃ S', Gm ((potPt i)).M S0 H0 S' H' ∧ PotAt (potPt i) s' S' H' ∧ rI r v S') → Q v H' := fun v {H'} ⟨S', h1, h2, h3⟩ => fin0 v S' H' h1 h2 h3
    have w0 : Wd (potPt i) S0 H0 S0 H0 [] := Wd.start e0
    have hm0 : Mir.run (m__law_one p_items) s0 = some (r, s') := hm0
    unfold m__law_one at hm0
    have sc := sc__law_one
    refine ⟨_, pss_cons (ps_ret (pe_ix (k_ixL K) (pv 1) (pe_cG G0 (hr.mono (by decide)) gd rfl m0 F0.kp b0 pass0 (pa_cons (pv 0) (pa_cons (pe_callB (k_len K) (by rfl) T.n_len (by decide +kernel) (pa_cons (pv 1) pa_nil)) (pa_nil)))) (fun _ _ => rfl))) (pss_nil), ?_⟩
    refine q_ret w0 p0 (e_ixL (Ev.rd (e_var rfl r_items)) (Ev.eta (e_callP (F := fun i => potPt i) (i := i) (A := fun i => (aCons (rP i) (aOne rI))) (E := E0) (fm := fm__law_of) (R := rI) (a_cons (e_var (R := rP i) (a := ()) rfl rfl) (a_one (c_lenL (Ev.rd (e_var rfl r_items)))))))) hm0 ?_
    intro r8 v9 S1 H2 s3 w4 p5 g7 rr10 hm6
    cases run_of_pure hm6
    exact fin _ ⟨S1, w4.g, p5, rr10⟩
end
abbrev t__law_one_b : Stmt := top 48
theorem sc__law_one_b : FnScope ["pot", "items"] ["pot", "items"] (defScope t__law_one_b) := ⟨rfl, rfl, rfl, by decide +kernel, rfl, by decide +kernel, by decide +kernel⟩
@[irreducible] noncomputable def m__law_one_b (p_items : (List (Int × Int))) : PM PotT (Int × Int) :=
m__law_of (List.length p_items : Int) >>= fun r12 => Mir.lft (L2.atI p_items r12) >>= fun y11 => bnd y11 fun r8 => pure r8
noncomputable abbrev fm__law_one_b : (Unit × (List (Int × Int))) → PM PotT (Int × Int) := fun (_, a1) => m__law_one_b a1
abbrev sp__law_one_b (K : PySem.W.Frag) : Sp := spV (fun i => potPt i) fm__law_one_b (fun i => (aCons (rP i) (aOne (rL (aAll (rT K (aCons rI (aOne rI)))))))) (rT K (aCons rI (aOne rI)))
section
variable {P : Program} {w : World} {K : PySem.W.Frag} {mg : Str → Option Value} {base : Heap}
theorem g__law_one_b (T : Tx mg base) (D0 : Dk P w K mg base "_law_of" "_law_of" t__law_of 1 ["pot", "many"] (sp__law_of K)) {f : Addr} {fd : FuncData} (F : Fun K "_law_one" "_law_one" t__law_one_b f fd) : FnG P w K mg base CX0 2 f fd ["pot", "items"] (sp__law_one_b K) := by
  obtain ⟨f0, fd0, F0, m0, G0, b0⟩ := D0
  refine okG0 F sc__law_one_b (fun vs H Q E h => ?_) (fun cdv A outer s0_ H0 vs Q E hr gd h => ?_)
  · obtain ⟨_, _, _, _, _, _, _, _, ⟨_, _, rfl, _, ⟨_, rfl, _⟩⟩, _⟩ := h
    rfl
  · obtain ⟨i, a, S0, s0, r, s', e0, p0, ⟨_, _, rfl, rfl, ⟨v_items, rfl, r_items⟩⟩, hm0, fin0⟩ := h
    obtain ⟨_, p_items⟩ := a
    have fin : ∀ v {H' : Hp}, (∃ S', Gm ((potPt i)).M S0 H0 S' H' ∧ PotAt (potPt i) s' S' H' ∧ (rT K (aCons rI (aOne rI))) r v S') → Q v H' := fun v {H'} ⟨S', h1, h2, h3⟩ => fin0 v S' H' h1 h2 h3
    have w0 : Wd (potPt i) S0 H0 S0 H0 [] := Wd.start e0
    have hm0 : Mir.run (m__law_one_b p_items) s0 = some (r, s') := hm0
    unfold m__law_one_b at hm0
    have sc := sc__law_one_b
    refine ⟨_, pss_cons (ps_ret (pe_ix (k_ixL K) (pv 1) (pe_cG G0 (hr.mono (by decide)) gd rfl m0 F0.kp b0 pass0 (pa_cons (pv 0) (pa_cons (pe_callB (k_len K) (by rfl) T.n_len (by decide +kernel) (pa_cons (pv 1) pa_nil)) (pa_nil)))) (fun _ _ => rfl))) (pss_nil), ?_⟩
    refine q_ret w0 p0 (e_ixL (Ev.rd (e_var rfl r_items)) (Ev.eta (e_callP (F := fun i => potPt i) (i := i) (A := fun i => (aCons (rP i) (aOne rI))) (E := E0) (fm := fm__law_of) (R := rI) (a_cons (e_var (R := rP i) (a := ()) rfl rfl) (a_one (c_lenL (Ev.rd (e_var rfl r_items)))))))) hm0 ?_
    intro r8 v9 S1 H2 s3 w4 p5 g7 rr10 hm6
    cases run_of_pure hm6
    exact fin _ ⟨S1, w4.g, p5, rr10⟩
end
abbrev t__law_flat : Stmt := top 49
theorem sc__law_flat : FnScope ["rows", "found", "row"] ["rows"] (defScope t__law_flat) := ⟨rfl, rfl, rfl, by decide +kernel, rfl, by decide +kernel, by decide +kernel⟩
@[irreducible] noncomputable def m__law_flat (p_rows : (List (List Int))) : Option (List Int) :=
Mir.lft (grd (List.length ([] : List Int) ≤ 16000000)) >>= fun _ => bnd ([] : List Int) fun found1 =>
(lpS p_rows (fun (x18 : (List Int)) (st16 : (List Int)) =>
Mir.lft (grd (List.length st16 + List.length x18 ≤ 16000000)) >>= fun _ => bnd (st16 ++ x18) fun found68 =>
pure found68) found1) >>= fun (st16 : (List Int)) =>
bnd st16 fun r96 => pure r96
noncomputable abbrev fm__law_flat : ((List (List Int))) → Option (List Int) := fun a => m__law_flat a
abbrev sp__law_flat (K : PySem.W.Frag) : Sp := spN F0 fm__law_flat (fun _ => (aOne (rL (aAll (rL (aAll rI)))))) (aAll rI)
section
variable {P : Program} {w : World} {K : PySem.W.Frag} {mg : Str → Option Value} {base : Heap}
theorem g__law_flat (T : Tx mg base)  {f : Addr} {fd : FuncData} (F : Fun K "_law_flat" "_law_flat" t__law_flat f fd) : FnG P w K mg base CX0 1 f fd ["rows"] (sp__law_flat K) := by
  refine okG0 F sc__law_flat (fun vs H Q E h => ?_) (fun cdv A outer s0_ H0 vs Q E hr gd h => ?_)
  · obtain ⟨_, _, _, _, _, _, _, _, ⟨_, rfl, _⟩, _⟩ := h
    rfl
  · obtain ⟨_, p_rows, S0, s0, r, s', e0, p0, ⟨v_rows, rfl, r_rows⟩, hm0, fin0⟩ := h
    have fin : ∀ v {H' : Hp}, (∃ S' q us, v = .ref q ∧ Gm (pt0).M S0 H0 S' H' ∧ PotAt pt0 s' S' H' ∧ H0 q = none ∧ H' q = some (.lst us) ∧ S' q = none ∧ (aAll rI) r us S') → Q v H' := fun v {H'} ⟨S', q, us, h0, h1, h2, h3, h4, h5, h6⟩ => by subst h0; exact fin0 q us S' H' h1 h2 h3 h4 h5 h6
    have w0 : Wd pt0 S0 H0 S0 H0 [] := Wd.start e0
    have hm0 : Mir.run (m__law_flat p_rows) s0 = some (r, s') := hm0
    unfold m__law_flat at hm0
    have sc := sc__law_flat
    refine ⟨_, pss_cons (ps_set (i := 1) sc.nd rfl (by first | exact Or.inl rfl | exact Or.inr rfl) (pe_lst (pa_nil))) (pss_cons (ps_for PassesOwn.never rfl (k_pil K (pv 0)) (pg_name (i := 2) sc.nd rfl (by first | exact Or.inl rfl | exact Or.inr rfl)) (pss_cons (ps_expr (pe_bm PySem.F.plainAttrs_list PySem.F.slot_list_extend PySem.F.type_list_extend mt_extend (pv 1) (pa_cons (pv 2) pa_nil))) (pss_nil))) (pss_cons (ps_ret (pv 1)) (pss_nil))), ?_⟩
    refine q_setL (fun v => [some v_rows, some v, none]) (fun _ => rfl) w0 p0 (l_lstL (a_nilL (R := rI))) hm0 ?_
    intro found1 q9 vs10 S2 H3 s4 w5 p6 g8 rfound11 hm7
    have rfound11 : All rI _ _ _ := rfound11
    have r_rows := Mo.mo g8.s r_rows
    refine q_for (p := pt0) w5 p6 (i_L (K := K) (e_var rfl r_rows)) (g_nm (R := (rL (aAll rI)))) hm7 (fun Sb17 st16 σ S' H' s' => Ex Sb17 S' ∧ (∃ (qfound_ : Addr) (usfound_ : List V) (xrow_ : Option V), σ = [some v_rows, some (.ref qfound_), xrow_] ∧ Wd pt0 S0 H0 S' H' [(qfound_, .lst usfound_)] ∧ PotAt pt0 s' S' H' ∧ Ex S2 S' ∧ All rI S' st16 usfound_)) ?_ ?_ ?_ ?_ ?_
    · intro S19 H20 s21 w22 p23 g24
      have r_rows := Mo.mo g24.s r_rows
      have rfound11 := All.mo g24.s rfound11
      exact ⟨Ex.rf, ⟨_, _, _, rfl, w22, p23, g24.s, rfound11⟩⟩
    · rintro Sb17 st16 _ S32 H33 s34 ⟨ex35, ⟨qfound25, usfound26, xrow27, rfl, w29, p30, eb31, rfound28⟩⟩
      exact ⟨ex35, w29.i, p30, ownOk0⟩
    · rintro Sb17 st16 _ S43 H44 s45 S46 H47 ⟨ex49, ⟨qfound36, usfound37, xrow38, rfl, w40, p41, eb42, rfound39⟩⟩ g48
      exact ⟨ex49.tr g48.s, _, _, _, rfl, w40.go (Gm.up g48), PotAt.go p41 g48, eb42.tr g48.s, All.mo g48.s rfound39⟩
    · rintro Sb17 x18 st16 _ σ65 S57 H58 s59 st16_ s2_ D_ ⟨ex64, ⟨qfound50, usfound51, xrow52, rfl, w54, p55, eb56, rfound53⟩⟩ hp hm60 nx61
      obtain ⟨vrow66, rfl, rrow67⟩ := hp
      have r_rows := Mo.mo eb56 r_rows
      refine q_extR (j := 0) w54 p55 rfl rfl rfound53 (Ev.rd (e_var rfl rrow67)) hm60 ?_
      intro found68 vs69 S71 H72 s73 w74 p75 e77 rfound70 hm76
      have r_rows := Mo.mo e77 r_rows
      have rrow67 := Mo.mo e77 rrow67
      have eb56 := eb56.tr e77
      have ex64 := ex64.tr e77
      cases run_of_pure hm76
      exact (nx61 _ _ _ ⟨ex64, ⟨_, _, _, rfl, w74, p75, eb56, rfound70⟩⟩).1
    · rintro Sb17 st16 _ S85 H86 s87 ⟨_, ⟨qfound78, usfound79, xrow80, rfl, w82, p83, eb84, rfound81⟩⟩ hm88
      have r_rows := Mo.mo eb84 r_rows
      refine q_retO (rfl : _ = some (some (V.ref qfound78))) hm88 ?_
      intro hm94
      cases run_of_pure hm94
      exact fin _ ⟨_, _, _, rfl, w82.g, p83, (w82.at (i := 0) rfl).2.2, (w82.at (i := 0) rfl).1, (w82.at (i := 0) rfl).2.1, rfound81⟩
end
abbrev t__law_common : Stmt := top 50
theorem sc__law_common : FnScope ["a", "b"] ["a", "b"] (defScope t__law_common) := ⟨rfl, rfl, rfl, by decide +kernel, rfl, by decide +kernel, by decide +kernel⟩
@[irreducible] noncomputable def m__law_common (p_a : Int) (p_b : Int) : Option Int :=
(whS many (fun (st1 : Int × Int) k => k (decide ((0 : Int) < st1.2))) (fun (st1 : Int × Int) =>
bnd st1.2 fun a32 =>
Mir.lft (grd (0 < st1.2)) >>= fun _ => bnd (st1.1 % st1.2) fun b42 =>
pure (a32, b42)) (p_a, p_b)) >>= fun (st1 : Int × Int) =>
bnd st1.1 fun r66 => pure r66
noncomputable abbrev fm__law_common : (Int × Int) → Option Int := fun (a0, a1) => m__law_common a0 a1
abbrev sp__law_common (K : PySem.W.Frag) : Sp := spV F0 fm__law_common (fun _ => (aCons rI (aOne rI))) rI
section
variable {P : Program} {w : World} {K : PySem.W.Frag} {mg : Str → Option Value} {base : Heap}
theorem g__law_common (T : Tx mg base)  {f : Addr} {fd : FuncData} (F : Fun K "_law_common" "_law_common" t__law_common f fd) : FnG P w K mg base CX0 1 f fd ["a", "b"] (sp__law_common K) := by
  refine okG0 F sc__law_common (fun vs H Q E h => ?_) (fun cdv A outer s0_ H0 vs Q E hr gd h => ?_)
  · obtain ⟨_, _, _, _, _, _, _, _, ⟨_, _, rfl, _, ⟨_, rfl, _⟩⟩, _⟩ := h
    rfl
  · obtain ⟨_, a, S0, s0, r, s', e0, p0, ⟨_, _, rfl, rfl, ⟨_, rfl, rfl⟩⟩, hm0, fin0⟩ := h
    obtain ⟨p_a, p_b⟩ := a
    have fin : ∀ v {H' : Hp}, (∃ S', Gm (pt0).M S0 H0 S' H' ∧ PotAt pt0 s' S' H' ∧ rI r v S') → Q v H' := fun v {H'} ⟨S', h1, h2, h3⟩ => fin0 v S' H' h1 h2 h3
    have w0 : Wd pt0 S0 H0 S0 H0 [] := Wd.start e0
    have hm0 : Mir.run (m__law_common p_a p_b) s0 = some (r, s') := hm0
    unfold m__law_common at hm0
    have sc := sc__law_common
    refine ⟨_, pss_cons (ps_while PassesOwn.never (pt_cmpR op_gt (pv 1) (pe_int) (nomark _)) (pss_cons (ps_par (i := 0) (j := 1) rfl sc.nd rfl rfl (by decide) rfl rfl (pa_cons (pv 1) (pa_cons (pe_op op_mod (pe_callTy call_int1 (by rfl) T.n_int (by decide +kernel) (pa_cons (pv 0) pa_nil)) (pv 1)) (pa_nil))) (by rfl)) (pss_nil))) (pss_cons (ps_ret (pv 0)) (pss_nil)), ?_⟩
    refine q_wh (p := pt0) (fun st1 σ S' H' s' => σ = [some (.int st1.1), some (.int st1.2)] ∧ Wd pt0 S0 H0 S' H' [] ∧ PotAt pt0 s' S' H' ∧ Ex S0 S') ⟨rfl, w0, p0, Ex.rf⟩ hm0 ?_ ?_ ?_ ?_
    · rintro st1 _ S7 H8 s9 ⟨rfl, w4, p5, eb6⟩
      exact ⟨p5, w4.i, (t_Test (e_gt (e_var (R := rI) rfl rfl) e_cI))⟩
    · rintro st1 _ S13 H14 s15 S16 H17 s18 ⟨rfl, w10, p11, eb12⟩ g19 p20
      exact ⟨rfl, w10.go g19, p20, eb12.tr g19.s⟩
    · rintro st1 _ S24 H25 s26 st1_ s2_ D_ ⟨rfl, w21, p22, eb23⟩ hm27 nx28
      refine par_go ?_
      refine x_ev w21 p22 (e_var (R := rI) rfl rfl) hm27 ?_
      intro a32 va40 S33 H34 s35 w36 p37 g39 ra41 hm38
      cases (show va40 = .int a32 from ra41)
      have eb23 := eb23.tr g39.s
      refine x_ev w36 p37 (e_mod (c_int (e_var (R := rI) rfl rfl)) (e_var (R := rI) rfl rfl)) hm38 ?_
      intro b42 vb50 S43 H44 s45 w46 p47 g49 rb51 hm48
      cases (show vb50 = .int b42 from rb51)
      have eb23 := eb23.tr g49.s
      refine par_end [some (.int a32), some (.int b42)] rfl ?_
      cases run_of_pure hm48
      exact (nx28 _ _ _ ⟨rfl, w46, p47, eb23⟩).1
    · rintro st1 _ S55 H56 s57 ⟨rfl, w52, p53, eb54⟩ hm58
      refine q_ret w52 p53 (e_var (R := rI) rfl rfl) hm58 ?_
      intro r66 v67 S59 H60 s61 w62 p63 g65 rr68 hm64
      cases run_of_pure hm64
      exact fin _ ⟨S59, w62.g, p63, rr68⟩
end
abbrev t__law_made : Stmt := top 51
theorem sc__law_made : FnScope ["above", "below", "by"] ["above", "below"] (defScope t__law_made) := ⟨rfl, rfl, rfl, by decide +kernel, rfl, by decide +kernel, by decide +kernel⟩
@[irreducible] noncomputable def m__law_made (p_above : Int) (p_below : Int) : Option (Int × Int) :=
(if (!decide (p_above = (0 : Int))) = true then Mir.lft (m__law_common (if p_above < 0 then -p_above else p_above) p_below) >>= fun r22 => pure r22 else pure p_below) >>= fun c21 => bnd c21 fun by1 =>
Mir.lft (grd (Dv by1)) >>= fun _ => Mir.lft (grd (Dv by1)) >>= fun _ => bnd ((p_above / by1), (p_below / by1)) fun r18 => pure r18
noncomputable abbrev fm__law_made : (Int × Int) → Option (Int × Int) := fun (a0, a1) => m__law_made a0 a1
abbrev sp__law_made (K : PySem.W.Frag) : Sp := spV F0 fm__law_made (fun _ => (aCons rI (aOne rI))) (rT K (aCons rI (aOne rI)))
section
variable {P : Program} {w : World} {K : PySem.W.Frag} {mg : Str → Option Value} {base : Heap}
theorem g__law_made (T : Tx mg base) (D0 : Dk P w K mg base "_law_common" "_law_common" t__law_common 1 ["a", "b"] (sp__law_common K)) {f : Addr} {fd : FuncData} (F : Fun K "_law_made" "_law_made" t__law_made f fd) : FnG P w K mg base CX0 2 f fd ["above", "below"] (sp__law_made K) := by
  obtain ⟨f0, fd0, F0, m0, G0, b0⟩ := D0
  refine okG0 F sc__law_made (fun vs H Q E h => ?_) (fun cdv A outer s0_ H0 vs Q E hr gd h => ?_)
  · obtain ⟨_, _, _, _, _, _, _, _, ⟨_, _, rfl, _, ⟨_, rfl, _⟩⟩, _⟩ := h
    rfl
  · obtain ⟨_, a, S0, s0, r, s', e0, p0, ⟨_, _, rfl, rfl, ⟨_, rfl, rfl⟩⟩, hm0, fin0⟩ := h
    obtain ⟨p_above, p_below⟩ := a
    have fin : ∀ v {H' : Hp}, (∃ S', Gm (pt0).M S0 H0 S' H' ∧ PotAt pt0 s' S' H' ∧ (rT K (aCons rI (aOne rI))) r v S') → Q v H' := fun v {H'} ⟨S', h1, h2, h3⟩ => fin0 v S' H' h1 h2 h3
    have w0 : Wd pt0 S0 H0 S0 H0 [] := Wd.start e0
    have hm0 : Mir.run (m__law_made p_above p_below) s0 = some (r, s') := hm0
    unfold m__law_made at hm0
    have sc := sc__law_made
    refine ⟨_, pss_cons (ps_set (i := 2) sc.nd rfl (by first | exact Or.inl rfl | exact Or.inr rfl) (pe_ifExp (pt_cmpR op_ne (pv 0) (pe_int) (nomark _)) (pe_cG G0 (hr.mono (by decide)) gd rfl m0 F0.kp b0 pass0 (pa_cons (pe_callB call_abs (by rfl) T.n_abs (by decide +kernel) (pa_cons (pv 0) pa_nil)) (pa_cons (pv 1) (pa_nil)))) (pv 1))) (pss_cons (ps_ret (pe_tup (pa_cons (pe_op op_fdivW (pv 0) (pv 2)) (pa_cons (pe_op op_fdivW (pv 1) (pv 2)) (pa_nil))))) (pss_nil)), ?_⟩
    refine q_set (fun v => [some (.int p_above), some (.int p_below), some v]) (fun _ => rfl) w0 p0 (e_if (R := rI) (t_Test (e_ne (e_var (R := rI) rfl rfl) e_cI)) (Ev.eta (e_call (E := E0) (fm := fm__law_common) (R := rI) (a_cons (c_abs (e_var (R := rI) rfl rfl)) (a_one (e_var (R := rI) rfl rfl))))) (e_var (R := rI) rfl rfl)) hm0 ?_
    intro by1 vby9 S2 H3 s4 w5 p6 g8 rby10 hm7
    cases (show vby9 = .int by1 from rby10)
    refine q_ret w5 p6 (e_tup (K := K) (a_cons (e_fdiv (e_var (R := rI) rfl rfl) (e_var (R := rI) rfl rfl)) (a_one (e_fdiv (e_var (R := rI) rfl rfl) (e_var (R := rI) rfl rfl)))) (arN_cons arN_one) (by decide)) hm7 ?_
    intro r18 v19 S11 H12 s13 w14 p15 g17 rr20 hm16
    cases run_of_pure hm16
    exact fin _ ⟨S11, w14.g, p15, rr20⟩
end
abbrev t__law_raised : Stmt := top 52
theorem sc__law_raised : FnScope ["number", "often", "found", "turn"] ["number", "often"] (defScope t__law_raised) := ⟨rfl, rfl, rfl, by decide +kernel, rfl, by decide +kernel, by decide +kernel⟩
@[irreducible] noncomputable def m__law_raised (p_number : Int) (p_often : Int) : Option Int :=
bnd (1 : Int) fun found1 =>
Mir.lft (grd (RgB p_often)) >>= fun _ => (lpS (rng 0 p_often) (fun (x13 : Int) (st11 : Int) =>
Mir.lft (grd (Sm st11 ∧ Sm p_number)) >>= fun _ => bnd (st11 * p_number) fun found52 =>
pure found52) found1) >>= fun (st11 : Int) =>
bnd st11 fun r77 => pure r77
noncomputable abbrev fm__law_raised : (Int × Int) → Option Int := fun (a0, a1) => m__law_raised a0 a1
abbrev sp__law_raised (K : PySem.W.Frag) : Sp := spV F0 fm__law_raised (fun _ => (aCons rI (aOne rI))) rI
section
variable {P : Program} {w : World} {K : PySem.W.Frag} {mg : Str → Option Value} {base : Heap}
theorem g__law_raised (T : Tx mg base)  {f : Addr} {fd : FuncData} (F : Fun K "_law_raised" "_law_raised" t__law_raised f fd) : FnG P w K mg base CX0 1 f fd ["number", "often"] (sp__law_raised K) := by
  refine okG0 F sc__law_raised (fun vs H Q E h => ?_) (fun cdv A outer s0_ H0 vs Q E hr gd h => ?_)
  · obtain ⟨_, _, _, _, _, _, _, _, ⟨_, _, rfl, _, ⟨_, rfl, _⟩⟩, _⟩ := h
    rfl
  · obtain ⟨_, a, S0, s0, r, s', e0, p0, ⟨_, _, rfl, rfl, ⟨_, rfl, rfl⟩⟩, hm0, fin0⟩ := h
    obtain ⟨p_number, p_often⟩ := a
    have fin : ∀ v {H' : Hp}, (∃ S', Gm (pt0).M S0 H0 S' H' ∧ PotAt pt0 s' S' H' ∧ rI r v S') → Q v H' := fun v {H'} ⟨S', h1, h2, h3⟩ => fin0 v S' H' h1 h2 h3
    have w0 : Wd pt0 S0 H0 S0 H0 [] := Wd.start e0
    have hm0 : Mir.run (m__law_raised p_number p_often) s0 = some (r, s') := hm0
    unfold m__law_raised at hm0
    have sc := sc__law_raised
    refine ⟨_, pss_cons (ps_set (i := 2) sc.nd rfl (by first | exact Or.inl rfl | exact Or.inr rfl) (pe_int)) (pss_cons (ps_for PassesOwn.never rfl (pi_range1 rfl T.n_range (pa_cons (pv 1) pa_nil)) (pg_name (i := 3) sc.nd rfl (by first | exact Or.inl rfl | exact Or.inr rfl)) (pss_cons (ps_set (i := 2) sc.nd rfl (by first | exact Or.inl rfl | exact Or.inr rfl) (pe_op op_mulX (pv 2) (pv 0))) (pss_nil))) (pss_cons (ps_ret (pv 2)) (pss_nil))), ?_⟩
    refine q_set (fun v => [some (.int p_number), some (.int p_often), some v, none]) (fun _ => rfl) w0 p0 e_cI hm0 ?_
    intro found1 vfound9 S2 H3 s4 w5 p6 g8 rfound10 hm7
    cases (show vfound9 = .int found1 from rfound10)
    refine q_for (p := pt0) w5 p6 (i_R1 (e_var (R := rI) rfl rfl)) (g_nm (R := rI)) hm7 (fun Sb12 st11 σ S' H' s' => Ex Sb12 S' ∧ (∃ (xturn_ : Option V), σ = [some (.int p_number), some (.int p_often), some (.int st11), xturn_] ∧ Wd pt0 S0 H0 S' H' [] ∧ PotAt pt0 s' S' H' ∧ Ex S2 S')) ?_ ?_ ?_ ?_ ?_
    · intro S14 H15 s16 w17 p18 g19
      exact ⟨Ex.rf, ⟨_, rfl, w17, p18, g19.s⟩⟩
    · rintro Sb12 st11 _ S24 H25 s26 ⟨ex27, ⟨xturn20, rfl, w21, p22, eb23⟩⟩
      exact ⟨ex27, w21.i, p22, ownOk0⟩
    · rintro Sb12 st11 _ S32 H33 s34 S35 H36 ⟨ex38, ⟨xturn28, rfl, w29, p30, eb31⟩⟩ g37
      exact ⟨ex38.tr g37.s, _, rfl, w29.go (Gm.up g37), PotAt.go p30 g37, eb31.tr g37.s⟩
    · rintro Sb12 x13 st11 _ σ51 S43 H44 s45 st11_ s2_ D_ ⟨ex50, ⟨xturn39, rfl, w40, p41, eb42⟩⟩ hp hm46 nx47
      obtain ⟨_, rfl, rfl⟩ := hp
      refine q_set (fun v => [some (.int p_number), some (.int p_often), some v, some (.int x13)]) (fun _ => rfl) w40 p41 (e_mul (e_var (R := rI) rfl rfl) (e_var (R := rI) rfl rfl)) hm46 ?_
      intro found52 vfound60 S53 H54 s55 w56 p57 g59 rfound61 hm58
      cases (show vfound60 = .int found52 from rfound61)
      have eb42 := eb42.tr g59.s
      have ex50 := ex50.tr g59.s
      cases run_of_pure hm58
      exact (nx47 _ _ _ ⟨ex50, ⟨_, rfl, w56, p57, eb42⟩⟩).1
    · rintro Sb12 st11 _ S66 H67 s68 ⟨_, ⟨xturn62, rfl, w63, p64, eb65⟩⟩ hm69
      refine q_ret w63 p64 (e_var (R := rI) rfl rfl) hm69 ?_
      intro r77 v78 S70 H71 s72 w73 p74 g76 rr79 hm75
      cases run_of_pure hm75
      exact fin _ ⟨S70, w73.g, p74, rr79⟩
end
abbrev t__law_primes : Stmt := top 53
theorem sc__law_primes : FnScope ["number", "found", "p", "often"] ["number"] (defScope t__law_primes) := ⟨rfl, rfl, rfl, by decide +kernel, rfl, by decide +kernel, by decide +kernel⟩
@[irreducible] noncomputable def m__law_primes (p_number : Int) : Option (List (Int × Int)) :=
Mir.lft (grd (List.length ([] : List (Int × Int)) ≤ 16000000)) >>= fun _ => bnd ([] : List (Int × Int)) fun found1 =>
bnd (2 : Int) fun p12 =>
(whS many (fun (st22 : Int × (List (Int × Int)) × Int) k => Mir.lft (grd (Sm st22.2.2 ∧ Sm st22.2.2)) >>= fun _ => k (decide ((st22.2.2 * st22.2.2) ≤ st22.1))) (fun (st22 : Int × (List (Int × Int)) × Int) =>
bnd (0 : Int) fun often65 =>
(whS many (fun (st75 : Int × Int) k => Mir.lft (grd (0 < st22.2.2)) >>= fun _ => k (decide ((st75.1 % st22.2.2) = (0 : Int)))) (fun (st75 : Int × Int) =>
bnd (st75.2 + (1 : Int)) fun often106 =>
Mir.lft (grd (Dv st22.2.2)) >>= fun _ => bnd (st75.1 / st22.2.2) fun number116 =>
pure (number116, often106)) (st22.1, often65)) >>= fun (st75 : Int × Int) =>
(if (decide ((0 : Int) < st75.2)) = true then Mir.lft (grd (List.length ([(st22.2.2, st75.2)] : List (Int × Int)) ≤ 16000000)) >>= fun _ => pure ([(st22.2.2, st75.2)] : List (Int × Int)) else Mir.lft (grd (List.length ([] : List (Int × Int)) ≤ 16000000)) >>= fun _ => pure ([] : List (Int × Int))) >>= fun c153 => Mir.lft (grd (List.length st22.2.1 + List.length c153 ≤ 16000000)) >>= fun _ => bnd (st22.2.1 ++ c153) fun found133 =>
bnd (if (decide (st22.2.2 = (2 : Int))) = true then (st22.2.2 + (1 : Int)) else (st22.2.2 + (2 : Int))) fun p143 =>
pure (st75.1, found133, p143)) (p_number, found1, p12)) >>= fun (st22 : Int × (List (Int × Int)) × Int) =>
(if (decide ((1 : Int) < st22.1)) = true then Mir.lft (grd (List.length ([(st22.1, (1 : Int))] : List (Int × Int)) ≤ 16000000)) >>= fun _ => pure ([(st22.1, (1 : Int))] : List (Int × Int)) else Mir.lft (grd (List.length ([] : List (Int × Int)) ≤ 16000000)) >>= fun _ => pure ([] : List (Int × Int))) >>= fun c178 => Mir.lft (grd (List.length st22.2.1 + List.length c178 ≤ 16000000)) >>= fun _ => bnd (st22.2.1 ++ c178) fun r175 => pure r175
noncomputable abbrev fm__law_primes : (Int) → Option (List (Int × Int)) := fun a => m__law_primes a
abbrev sp__law_primes (K : PySem.W.Frag) : Sp := spV F0 fm__law_primes (fun _ => (aOne rI)) (rT K (aAll (rT K (aCons rI (aOne rI)))))
section
variable {P : Program} {w : World} {K : PySem.W.Frag} {mg : Str → Option Value} {base : Heap}
theorem g__law_primes (T : Tx mg base)  {f : Addr} {fd : FuncData} (F : Fun K "_law_primes" "_law_primes" t__law_primes f fd) : FnG P w K mg base CX0 1 f fd ["number"] (sp__law_primes K) := by
  refine okG0 F sc__law_primes (fun vs H Q E h => ?_) (fun cdv A outer s0_ H0 vs Q E hr gd h => ?_)
  · obtain ⟨_, _, _, _, _, _, _, _, ⟨_, rfl, _⟩, _⟩ := h
    rfl
  · obtain ⟨_, p_number, S0, s0, r, s', e0, p0, ⟨_, rfl, rfl⟩, hm0, fin0⟩ := h
    have fin : ∀ v {H' : Hp}, (∃ S', Gm (pt0).M S0 H0 S' H' ∧ PotAt pt0 s' S' H' ∧ (rT K (aAll (rT K (aCons rI (aOne rI))))) r v S') → Q v H' := fun v {H'} ⟨S', h1, h2, h3⟩ => fin0 v S' H' h1 h2 h3
    have w0 : Wd pt0 S0 H0 S0 H0 [] := Wd.start e0
    have hm0 : Mir.run (m__law_primes p_number) s0 = some (r, s') := hm0
    unfold m__law_primes at hm0
    have sc := sc__law_primes
    refine ⟨_, pss_cons (ps_par (i := 1) (j := 2) rfl sc.nd rfl rfl (by decide) rfl rfl (pa_cons (pe_lst (pa_nil)) (pa_cons (pe_int) (pa_nil))) (by rfl)) (pss_cons (ps_while PassesOwn.never (pt_cmpR op_le (pe_op op_mulX (pv 2) (pv 2)) (pv 0) (nomark _)) (pss_cons (ps_set (i := 3) sc.nd rfl (by first | exact Or.inl rfl | exact Or.inr rfl) (pe_int)) (pss_cons (ps_while PassesOwn.never (pt_cmpR op_eq (pe_op op_mod (pv 0) (pv 2)) (pe_int) (nomark _)) (pss_cons (ps_par (i := 3) (j := 0) rfl sc.nd rfl rfl (by decide) rfl rfl (pa_cons (pe_op op_add (pv 3) (pe_int)) (pa_cons (pe_op op_fdivW (pv 0) (pv 2)) (pa_nil))) (by rfl)) (pss_nil))) (pss_cons (ps_expr (pe_bm PySem.F.plainAttrs_list PySem.F.slot_list_extend PySem.F.type_list_extend mt_extend (pv 1) (pa_cons (pe_ifExp (pt_cmpR op_gt (pv 3) (pe_int) (nomark _)) (pe_lst (pa_cons (pe_tup (pa_cons (pv 2) (pa_cons (pv 3) (pa_nil)))) (pa_nil))) (pe_lst (pa_nil))) pa_nil))) (pss_cons (ps_set (i := 2) sc.nd rfl (by first | exact Or.inl rfl | exact Or.inr rfl) (pe_ifExp (pt_cmpR op_eq (pv 2) (pe_int) (nomark _)) (pe_op op_add (pv 2) (pe_int)) (pe_op op_add (pv 2) (pe_int)))) (pss_nil)))))) (pss_cons (ps_ret (pe_callTy (k_tupOf K) (by rfl) T.n_tuple (by decide +kernel) (pa_cons (pe_op op_cat (pv 1) (pe_ifExp (pt_cmpR op_gt (pv 0) (pe_int) (nomark _)) (pe_lst (pa_cons (pe_tup (pa_cons (pv 0) (pa_cons (pe_int) (pa_nil)))) (pa_nil))) (pe_lst (pa_nil)))) pa_nil))) (pss_nil))), ?_⟩
    refine par_go ?_
    refine x_evL w0 p0 (l_lstL (a_nilL (R := (rT K (aCons rI (aOne rI)))))) hm0 ?_
    intro found1 q9 vs10 S2 H3 s4 w5 p6 g8 rfound11 hm7
    have rfound11 : All (rT K (aCons rI (aOne rI))) _ _ _ := rfound11
    refine x_ev w5 p6 e_cI hm7 ?_
    intro p12 vp20 S13 H14 s15 w16 p17 g19 rp21 hm18
    cases (show vp20 = .int p12 from rp21)
    have rfound11 := All.mo g19.s rfound11
    refine par_end [some (.int p_number), some (.ref q9), some (.int p12), none] rfl ?_
    refine q_wh (p := pt0) (fun st22 σ S' H' s' => ∃ (qfound_ : Addr) (usfound_ : List V) (xoften_ : Option V), σ = [some (.int st22.1), some (.ref qfound_), some (.int st22.2.2), xoften_] ∧ Wd pt0 S0 H0 S' H' [(qfound_, .lst usfound_)] ∧ PotAt pt0 s' S' H' ∧ Ex S13 S' ∧ All (rT K (aCons rI (aOne rI))) S' st22.2.1 usfound_) ⟨_, _, _, rfl, w16, p17, Ex.rf, rfound11⟩ hm18 ?_ ?_ ?_ ?_
    · rintro st22 _ S32 H33 s34 ⟨qfound25, usfound26, xoften27, rfl, w29, p30, eb31, rfound28⟩
      exact ⟨p30, w29.i, (t_Test (e_le (e_mul (e_var (R := rI) rfl rfl) (e_var (R := rI) rfl rfl)) (e_var (R := rI) rfl rfl)))⟩
    · rintro st22 _ S42 H43 s44 S45 H46 s47 ⟨qfound35, usfound36, xoften37, rfl, w39, p40, eb41, rfound38⟩ g48 p49
      exact ⟨_, _, _, rfl, w39.go g48, p49, eb41.tr g48.s, All.mo g48.s rfound38⟩
    · rintro st22 _ S57 H58 s59 st22_ s2_ D_ ⟨qfound50, usfound51, xoften52, rfl, w54, p55, eb56, rfound53⟩ hm60 nx61
      refine q_set (fun v => [some (.int st22.1), some (.ref qfound50), some (.int st22.2.2), some v]) (fun _ => rfl) w54 p55 e_cI hm60 ?_
      intro often65 voften73 S66 H67 s68 w69 p70 g72 roften74 hm71
      cases (show voften73 = .int often65 from roften74)
      have rfound53 := All.mo g72.s rfound53
      have eb56 := eb56.tr g72.s
      refine q_wh (p := pt0) (fun st75 σ S' H' s' => σ = [some (.int st75.1), some (.ref qfound50), some (.int st22.2.2), some (.int st75.2)] ∧ Wd pt0 S0 H0 S' H' [(qfound50, .lst usfound51)] ∧ PotAt pt0 s' S' H' ∧ Ex S66 S') ⟨rfl, w69, p70, Ex.rf⟩ hm71 ?_ ?_ ?_ ?_
      · rintro st75 _ S81 H82 s83 ⟨rfl, w78, p79, eb80⟩
        have rfound53 := All.mo eb80 rfound53
        have eb56 := eb56.tr eb80
        exact ⟨p79, w78.i, (t_Test (e_eq (e_mod (e_var (R := rI) rfl rfl) (e_var (R := rI) rfl rfl)) e_cI))⟩
      · rintro st75 _ S87 H88 s89 S90 H91 s92 ⟨rfl, w84, p85, eb86⟩ g93 p94
        exact ⟨rfl, w84.go g93, p94, eb86.tr g93.s⟩
      · rintro st75 _ S98 H99 s100 st75_ s2_ D_ ⟨rfl, w95, p96, eb97⟩ hm101 nx102
        have rfound53 := All.mo eb97 rfound53
        have eb56 := eb56.tr eb97
        refine par_go ?_
        refine x_ev w95 p96 (e_add (e_var (R := rI) rfl rfl) e_cI) hm101 ?_
        intro often106 voften114 S107 H108 s109 w110 p111 g113 roften115 hm112
        cases (show voften114 = .int often106 from roften115)
        have rfound53 := All.mo g113.s rfound53
        have eb56 := eb56.tr g113.s
        have eb97 := eb97.tr g113.s
        refine x_ev w110 p111 (e_fdiv (e_var (R := rI) rfl rfl) (e_var (R := rI) rfl rfl)) hm112 ?_
        intro number116 vnumber124 S117 H118 s119 w120 p121 g123 rnumber125 hm122
        cases (show vnumber124 = .int number116 from rnumber125)
        have rfound53 := All.mo g123.s rfound53
        have eb56 := eb56.tr g123.s
        have eb97 := eb97.tr g123.s
        refine par_end [some (.int number116), some (.ref qfound50), some (.int st22.2.2), some (.int often106)] rfl ?_
        cases run_of_pure hm122
        exact (nx102 _ _ _ ⟨rfl, w120, p121, eb97⟩).1
      · rintro st75 _ S129 H130 s131 ⟨rfl, w126, p127, eb128⟩ hm132
        have rfound53 := All.mo eb128 rfound53
        have eb56 := eb56.tr eb128
        refine q_ext (j := 0) w126 p127 rfl rfl rfound53 (l_if (α := (List (Int × Int))) (t_Test (e_gt (e_var (R := rI) rfl rfl) e_cI)) (l_lstL (a_consL (e_tup (K := K) (a_cons (e_var (R := rI) rfl rfl) (a_one (e_var (R := rI) rfl rfl))) (arN_cons arN_one) (by decide)) (a_nilL (R := (rT K (aCons rI (aOne rI))))))) (l_lstL (a_nilL (R := (rT K (aCons rI (aOne rI))))))) hm132 ?_
        intro found133 vs134 S136 H137 s138 w139 p140 e142 rfound135 hm141
        have eb56 := eb56.tr e142
        refine q_set (fun v => [some (.int st75.1), some (.ref qfound50), some v, some (.int st75.2)]) (fun _ => rfl) w139 p140 (e_ifT (R := rI) (t_Test (e_eq (e_var (R := rI) rfl rfl) e_cI)) (e_add (e_var (R := rI) rfl rfl) e_cI) (e_add (e_var (R := rI) rfl rfl) e_cI)) hm141 ?_
        intro p143 vp151 S144 H145 s146 w147 p148 g150 rp152 hm149
        cases (show vp151 = .int p143 from rp152)
        have rfound135 := All.mo g150.s rfound135
        have eb56 := eb56.tr g150.s
        cases run_of_pure hm149
        exact (nx61 _ _ _ ⟨_, _, _, rfl, w147, p148, eb56, rfound135⟩).1
    · rintro st22 _ S164 H165 s166 ⟨qfound157, usfound158, xoften159, rfl, w161, p162, eb163, rfound160⟩ hm167
      refine q_ret w161 p162 (c_tup (K := K) (EvL.rd (l_cat (w_own (A := (aAll (rT K (aCons rI (aOne rI))))) (j := 0) w161 rfl rfl rfound160) (EvL.rd (l_if (α := (List (Int × Int))) (t_Test (e_gt (e_var (R := rI) rfl rfl) e_cI)) (l_lstL (a_consL (e_tup (K := K) (a_cons (e_var (R := rI) rfl rfl) (a_one e_cI)) (arN_cons arN_one) (by decide)) (a_nilL (R := (rT K (aCons rI (aOne rI))))))) (l_lstL (a_nilL (R := (rT K (aCons rI (aOne rI))))))))))) hm167 ?_
      intro r175 v176 S168 H169 s170 w171 p172 g174 rr177 hm173
      cases run_of_pure hm173
      exact fin _ ⟨S168, w171.g, p172, rr177⟩
end
abbrev t__law_told_number : Stmt := top 54
theorem sc__law_told_number : FnScope ["parting", "found", "p", "often"] ["parting"] (defScope t__law_told_number) := ⟨rfl, rfl, rfl, by decide +kernel, rfl, by decide +kernel, by decide +kernel⟩
@[irreducible] noncomputable def m__law_told_number (p_parting : (List (Int × Int))) : Option Int :=
bnd (1 : Int) fun found1 =>
(lpS p_parting (fun (x13 : (Int × Int)) (st11 : Int) =>
Mir.lft (m__law_raised x13.1 x13.2) >>= fun r65 => Mir.lft (grd (Sm st11 ∧ Sm r65)) >>= fun _ => bnd (st11 * r65) fun found55 =>
pure found55) found1) >>= fun (st11 : Int) =>
bnd st11 fun r82 => pure r82
noncomputable abbrev fm__law_told_number : ((List (Int × Int))) → Option Int := fun a => m__law_told_number a
abbrev sp__law_told_number (K : PySem.W.Frag) : Sp := spV F0 fm__law_told_number (fun _ => (aOne (rT K (aAll (rT K (aCons rI (aOne rI))))))) rI
section
variable {P : Program} {w : World} {K : PySem.W.Frag} {mg : Str → Option Value} {base : Heap}
theorem g__law_told_number (T : Tx mg base) (D0 : Dk P w K mg base "_law_raised" "_law_raised" t__law_raised 1 ["number", "often"] (sp__law_raised K)) {f : Addr} {fd : FuncData} (F : Fun K "_law_told_number" "_law_told_number" t__law_told_number f fd) : FnG P w K mg base CX0 2 f fd ["parting"] (sp__law_told_number K) := by
  obtain ⟨f0, fd0, F0, m0, G0, b0⟩ := D0
  refine okG0 F sc__law_told_number (fun vs H Q E h => ?_) (fun cdv A outer s0_ H0 vs Q E hr gd h => ?_)
  · obtain ⟨_, _, _, _, _, _, _, _, ⟨_, rfl, _⟩, _⟩ := h
    rfl
  · obtain ⟨_, p_parting, S0, s0, r, s', e0, p0, ⟨v_parting, rfl, r_parting⟩, hm0, fin0⟩ := h
    have fin : ∀ v {H' : Hp}, (∃ S', Gm (pt0).M S0 H0 S' H' ∧ PotAt pt0 s' S' H' ∧ rI r v S') → Q v H' := fun v {H'} ⟨S', h1, h2, h3⟩ => fin0 v S' H' h1 h2 h3
    have w0 : Wd pt0 S0 H0 S0 H0 [] := Wd.start e0
    have hm0 : Mir.run (m__law_told_number p_parting) s0 = some (r, s') := hm0
    unfold m__law_told_number at hm0
    have sc := sc__law_told_number
    refine ⟨_, pss_cons (ps_set (i := 1) sc.nd rfl (by first | exact Or.inl rfl | exact Or.inr rfl) (pe_int)) (pss_cons (ps_for PassesOwn.never rfl (k_pit K (pv 0)) (k_gt K (pgs_cons (pg_name (i := 2) sc.nd rfl (by first | exact Or.inl rfl | exact Or.inr rfl)) (pgs_cons (pg_name (i := 3) sc.nd rfl (by first | exact Or.inl rfl | exact Or.inr rfl)) (pgs_nil)))) (pss_cons (ps_set (i := 1) sc.nd rfl (by first | exact Or.inl rfl | exact Or.inr rfl) (pe_op op_mulX (pv 1) (pe_cG G0 (hr.mono (by decide)) gd rfl m0 F0.kp b0 pass0 (pa_cons (pv 2) (pa_cons (pv 3) (pa_nil)))))) (pss_nil))) (pss_cons (ps_ret (pv 1)) (pss_nil))), ?_⟩
    refine q_set (fun v => [some v_parting, some v, none, none]) (fun _ => rfl) w0 p0 e_cI hm0 ?_
    intro found1 vfound9 S2 H3 s4 w5 p6 g8 rfound10 hm7
    cases (show vfound9 = .int found1 from rfound10)
    have r_parting := Mo.mo g8.s r_parting
    refine q_for (p := pt0) w5 p6 (i_T (e_var rfl r_parting)) (g_tp (gq_cons (g_nm (R := rI)) (gq_one (g_nm (R := rI))))) hm7 (fun Sb12 st11 σ S' H' s' => Ex Sb12 S' ∧ (∃ (xp_ : Option V) (xoften_ : Option V), σ = [some v_parting, some (.int st11), xp_, xoften_] ∧ Wd pt0 S0 H0 S' H' [] ∧ PotAt pt0 s' S' H' ∧ Ex S2 S')) ?_ ?_ ?_ ?_ ?_
    · intro S14 H15 s16 w17 p18 g19
      have r_parting := Mo.mo g19.s r_parting
      exact ⟨Ex.rf, ⟨_, _, rfl, w17, p18, g19.s⟩⟩
    · rintro Sb12 st11 _ S25 H26 s27 ⟨ex28, ⟨xp20, xoften21, rfl, w22, p23, eb24⟩⟩
      exact ⟨ex28, w22.i, p23, ownOk0⟩
    · rintro Sb12 st11 _ S34 H35 s36 S37 H38 ⟨ex40, ⟨xp29, xoften30, rfl, w31, p32, eb33⟩⟩ g39
      exact ⟨ex40.tr g39.s, _, _, rfl, w31.go (Gm.up g39), PotAt.go p32 g39, eb33.tr g39.s⟩
    · rintro Sb12 x13 st11 _ σ54 S46 H47 s48 st11_ s2_ D_ ⟨ex53, ⟨xp41, xoften42, rfl, w43, p44, eb45⟩⟩ hp hm49 nx50
      obtain ⟨_, ⟨_, rfl, rfl⟩, ⟨_, rfl, rfl⟩⟩ := hp
      have r_parting := Mo.mo eb45 r_parting
      refine q_set (fun v => [some v_parting, some v, some (.int x13.1), some (.int x13.2)]) (fun _ => rfl) w43 p44 (e_mul (e_var (R := rI) rfl rfl) (Ev.eta (e_call (E := E0) (fm := fm__law_raised) (R := rI) (a_cons (e_var (R := rI) rfl rfl) (a_one (e_var (R := rI) rfl rfl)))))) hm49 ?_
      intro found55 vfound63 S56 H57 s58 w59 p60 g62 rfound64 hm61
      cases (show vfound63 = .int found55 from rfound64)
      have r_parting := Mo.mo g62.s r_parting
      have eb45 := eb45.tr g62.s
      have ex53 := ex53.tr g62.s
      cases run_of_pure hm61
      exact (nx50 _ _ _ ⟨ex53, ⟨_, _, rfl, w59, p60, eb45⟩⟩).1
    · rintro Sb12 st11 _ S71 H72 s73 ⟨_, ⟨xp66, xoften67, rfl, w68, p69, eb70⟩⟩ hm74
      have r_parting := Mo.mo eb70 r_parting
      refine q_ret w68 p69 (e_var (R := rI) rfl rfl) hm74 ?_
      intro r82 v83 S75 H76 s77 w78 p79 g81 rr84 hm80
      cases run_of_pure hm80
      exact fin _ ⟨S75, w78.g, p79, rr84⟩
end
abbrev t__law_divisors : Stmt := top 55
theorem sc__law_divisors : FnScope ["parting", "found", "p", "often", "powers", "k", "own", "power"] ["parting"] (defScope t__law_divisors) := ⟨rfl, rfl, rfl, by decide +kernel, rfl, by decide +kernel, by decide +kernel⟩
@[irreducible] noncomputable def m__law_divisors (p_parting : (List (Int × Int))) : Option (List Int) :=
Mir.lft (grd (List.length ([(1 : Int)] : List Int) ≤ 16000000)) >>= fun _ => bnd ([(1 : Int)] : List Int) fun found1 =>
(lpS p_parting (fun (x13 : (Int × Int)) (st11 : (List Int)) =>
Mir.lft (grd (RgB (x13.2 + (1 : Int)))) >>= fun _ => Mir.lft (grd (List.length (rng 0 (x13.2 + (1 : Int))) ≤ 16000000)) >>= fun _ => cmp (rng 0 (x13.2 + (1 : Int))) (fun x64 => Mir.lft (m__law_raised x13.1 x64) >>= fun r68 => pure (some r68)) >>= fun l99 => bnd l99 fun powers69 =>
Mir.lft (grd (List.length st11 ≤ 16000000)) >>= fun _ => cmp st11 (fun x79 => Mir.lft (grd (List.length powers69 ≤ 16000000)) >>= fun _ => cmp powers69 (fun x82 => Mir.lft (grd (Sm x79 ∧ Sm x82)) >>= fun _ => pure (some (x79 * x82))) >>= fun l86 => pure (some l86)) >>= fun l98 => Mir.lft (m__law_flat l98) >>= fun r97 => bnd r97 fun found87 =>
pure found87) found1) >>= fun (st11 : (List Int)) =>
bnd (srt st11) fun r119 => pure r119
noncomputable abbrev fm__law_divisors : ((List (Int × Int))) → Option (List Int) := fun a => m__law_divisors a
abbrev sp__law_divisors (K : PySem.W.Frag) : Sp := spN F0 fm__law_divisors (fun _ => (aOne (rT K (aAll (rT K (aCons rI (aOne rI))))))) (aAll rI)
section
variable {P : Program} {w : World} {K : PySem.W.Frag} {mg : Str → Option Value} {base : Heap}
theorem g__law_divisors (T : Tx mg base) (D0 : Dk P w K mg base "_law_raised" "_law_raised" t__law_raised 1 ["number", "often"] (sp__law_raised K)) (D1 : Dk P w K mg base "_law_flat" "_law_flat" t__law_flat 1 ["rows"] (sp__law_flat K)) {f : Addr} {fd : FuncData} (F : Fun K "_law_divisors" "_law_divisors" t__law_divisors f fd) : FnG P w K mg base CX0 2 f fd ["parting"] (sp__law_divisors K) := by
  obtain ⟨f0, fd0, F0, m0, G0, b0⟩ := D0
  obtain ⟨f1, fd1, F1, m1, G1, b1⟩ := D1
  refine okG0 F sc__law_divisors (fun vs H Q E h => ?_) (fun cdv A outer s0_ H0 vs Q E hr gd h => ?_)
  · obtain ⟨_, _, _, _, _, _, _, _, ⟨_, rfl, _⟩, _⟩ := h
    rfl
  · obtain ⟨_, p_parting, S0, s0, r, s', e0, p0, ⟨v_parting, rfl, r_parting⟩, hm0, fin0⟩ := h
    have fin : ∀ v {H' : Hp}, (∃ S' q us, v = .ref q ∧ Gm (pt0).M S0 H0 S' H' ∧ PotAt pt0 s' S' H' ∧ H0 q = none ∧ H' q = some (.lst us) ∧ S' q = none ∧ (aAll rI) r us S') → Q v H' := fun v {H'} ⟨S', q, us, h0, h1, h2, h3, h4, h5, h6⟩ => by subst h0; exact fin0 q us S' H' h1 h2 h3 h4 h5 h6
    have w0 : Wd pt0 S0 H0 S0 H0 [] := Wd.start e0
    have hm0 : Mir.run (m__law_divisors p_parting) s0 = some (r, s') := hm0
    unfold m__law_divisors at hm0
    have sc := sc__law_divisors
    refine ⟨_, pss_cons (ps_set (i := 1) sc.nd rfl (by first | exact Or.inl rfl | exact Or.inr rfl) (pe_lst (pa_cons (pe_int) (pa_nil)))) (pss_cons (ps_for PassesOwn.never rfl (k_pit K (pv 0)) (k_gt K (pgs_cons (pg_name (i := 2) sc.nd rfl (by first | exact Or.inl rfl | exact Or.inr rfl)) (pgs_cons (pg_name (i := 3) sc.nd rfl (by first | exact Or.inl rfl | exact Or.inr rfl)) (pgs_nil)))) (pss_cons (ps_set (i := 4) sc.nd rfl (by first | exact Or.inl rfl | exact Or.inr rfl) (pe_lc (own := [("k", 5)]) (g := (gName 5)) (tt := tYes) rfl sc.nd (pi_range1 rfl T.n_range (pa_cons (pe_op op_add (pv 3) (pe_int)) pa_nil)) (blkOk_by (N := ["parting", "found", "p", "often", "powers", "k", "own", "power"]) (sc := defScope t__law_divisors) (by decide +kernel)) (fun _ _ _ _ _ => pg_name (i := 5) sc.nd rfl (by first | exact Or.inl rfl | exact Or.inr rfl)) (fun _ _ _ _ _ => pts_nil) (fun _ _ _ _ _ => pe_cG G0 (hr.mono (by decide)) gd rfl m0 F0.kp b0 pass0 (pa_cons (pv 2) (pa_cons (pv 5) (pa_nil)))))) (pss_cons (ps_set (i := 1) sc.nd rfl (by first | exact Or.inl rfl | exact Or.inr rfl) (pe_cG G1 (hr.mono (by decide)) gd rfl m1 F1.kp b1 pass0 (pa_cons (pe_lc (own := [("own", 6)]) (g := (gName 6)) (tt := tYes) rfl sc.nd (k_pil K (pv 1)) (blkOk_by (N := ["parting", "found", "p", "often", "powers", "k", "own", "power"]) (sc := defScope t__law_divisors) (by decide +kernel)) (fun _ _ _ _ _ => pg_name (i := 6) sc.nd rfl (by first | exact Or.inl rfl | exact Or.inr rfl)) (fun _ _ _ _ _ => pts_nil) (fun _ _ _ _ _ => pe_lc (own := [("power", 7)]) (g := (gName 7)) (tt := tYes) rfl sc.nd (k_pil K (pv 4)) (blkOk_by (N := ["parting", "found", "p", "often", "powers", "k", "own", "power"]) (sc := ⟨.function, [(".0", .local), ("own", .cell), ("powers", .cell)], false, false, []⟩) (by decide +kernel)) (fun _ _ _ _ _ => pg_name (i := 7) sc.nd rfl (by first | exact Or.inl rfl | exact Or.inr rfl)) (fun _ _ _ _ _ => pts_nil) (fun _ _ _ _ _ => pe_op op_mulX (pv 6) (pv 7)))) (pa_nil)))) (pss_nil)))) (pss_cons (ps_ret (pe_callB (k_srt K) (by rfl) T.n_sorted (by decide +kernel) (pa_cons (pv 1) pa_nil))) (pss_nil))), ?_⟩
    refine q_set (fun v => [some v_parting, some v, none, none, none, none, none, none]) (fun _ => rfl) w0 p0 (EvL.frz (l_lstL (a_consL e_cI (a_nilL (R := rI))))) hm0 ?_
    intro found1 vfound9 S2 H3 s4 w5 p6 g8 rfound10 hm7
    have r_parting := Mo.mo g8.s r_parting
    refine q_for (p := pt0) w5 p6 (i_T (e_var rfl r_parting)) (g_tp (gq_cons (g_nm (R := rI)) (gq_one (g_nm (R := rI))))) hm7 (fun Sb12 st11 σ S' H' s' => Ex Sb12 S' ∧ (∃ (vfound_ : V) (xp_ : Option V) (xoften_ : Option V) (xpowers_ : Option V), σ = [some v_parting, some vfound_, xp_, xoften_, xpowers_, none, none, none] ∧ Wd pt0 S0 H0 S' H' [] ∧ PotAt pt0 s' S' H' ∧ Ex S2 S' ∧ (rL (aAll rI)) st11 vfound_ S')) ?_ ?_ ?_ ?_ ?_
    · intro S14 H15 s16 w17 p18 g19
      have r_parting := Mo.mo g19.s r_parting
      have rfound10 := Mo.mo g19.s rfound10
      exact ⟨Ex.rf, ⟨_, _, _, _, rfl, w17, p18, g19.s, rfound10⟩⟩
    · rintro Sb12 st11 _ S28 H29 s30 ⟨ex31, ⟨vfound20, xp21, xoften22, xpowers23, rfl, w25, p26, eb27, rfound24⟩⟩
      exact ⟨ex31, w25.i, p26, ownOk0⟩
    · rintro Sb12 st11 _ S40 H41 s42 S43 H44 ⟨ex46, ⟨vfound32, xp33, xoften34, xpowers35, rfl, w37, p38, eb39, rfound36⟩⟩ g45
      exact ⟨ex46.tr g45.s, _, _, _, _, rfl, w37.go (Gm.up g45), PotAt.go p38 g45, eb39.tr g45.s, Mo.mo g45.s rfound36⟩
    · rintro Sb12 x13 st11 _ σ63 S55 H56 s57 st11_ s2_ D_ ⟨ex62, ⟨vfound47, xp48, xoften49, xpowers50, rfl, w52, p53, eb54, rfound51⟩⟩ hp hm58 nx59
      obtain ⟨_, ⟨_, rfl, rfl⟩, ⟨_, rfl, rfl⟩⟩ := hp
      have r_parting := Mo.mo eb54 r_parting
      refine q_set (fun v => [some v_parting, some vfound47, some (.int x13.1), some (.int x13.2), some v, none, none, none]) (fun _ => rfl) w52 p53 (EvL.frz (l_lc1 (γ := Int) (vs := [5]) (me := fun x64 k => Mir.lft (m__law_raised x13.1 x64) >>= fun r67 => k r67) (R' := rI) (i_R1 (e_add (e_var (R := rI) rfl rfl) e_cI)) ownOk0 (g_nm (R := rI)) (fun x σ' S hp => by obtain ⟨_, rfl, _⟩ := hp; rfl) (fun x64 σ' S1 H1 g65 hp => by have w66 := w52.go g65; obtain ⟨_, rfl, rfl⟩ := hp; have r_parting := Mo.mo g65.s r_parting; have rfound51 := Mo.mo g65.s rfound51; exact (Ev.eta (e_call (E := E0) (fm := fm__law_raised) (R := rI) (a_cons (e_var (R := rI) rfl rfl) (a_one (e_var (R := rI) rfl rfl)))))) pm_nm)) hm58 ?_
      intro powers69 vpowers77 S70 H71 s72 w73 p74 g76 rpowers78 hm75
      have r_parting := Mo.mo g76.s r_parting
      have rfound51 := Mo.mo g76.s rfound51
      have eb54 := eb54.tr g76.s
      have ex62 := ex62.tr g76.s
      refine q_set (fun v => [some v_parting, some v, some (.int x13.1), some (.int x13.2), some vpowers77, none, none, none]) (fun _ => rfl) w73 p74 (EvL.frz (EvL.eta (l_call (E := E0) (fm := fm__law_flat) (R := (aAll rI)) (a_one (EvL.frz (l_lc1 (γ := (List Int)) (vs := [6]) (me := fun x79 k => Mir.lft (grd (List.length powers69 ≤ 16000000)) >>= fun _ => cmp powers69 (fun x82 => Mir.lft (grd (Sm x79 ∧ Sm x82)) >>= fun _ => pure (some (x79 * x82))) >>= fun l85 => k l85) (R' := (rL (aAll rI))) (i_L (K := K) (e_var rfl rfound51)) ownOk0 (g_nm (R := rI)) (fun x σ' S hp => by obtain ⟨_, rfl, _⟩ := hp; rfl) (fun x79 σ' S1 H1 g80 hp => by have w81 := w73.go g80; obtain ⟨_, rfl, rfl⟩ := hp; have r_parting := Mo.mo g80.s r_parting; have rfound51 := Mo.mo g80.s rfound51; have rpowers78 := Mo.mo g80.s rpowers78; exact (EvL.frz (l_lc1 (γ := Int) (vs := [7]) (me := fun x82 k => Mir.lft (grd (Sm x79 ∧ Sm x82)) >>= fun _ => k (x79 * x82)) (R' := rI) (i_L (K := K) (e_var rfl rpowers78)) ownOk0 (g_nm (R := rI)) (fun x σ' S hp => by obtain ⟨_, rfl, _⟩ := hp; rfl) (fun x82 σ' S1 H1 g83 hp => by have w84 := w81.go g83; obtain ⟨_, rfl, rfl⟩ := hp; have r_parting := Mo.mo g83.s r_parting; have rfound51 := Mo.mo g83.s rfound51; have rpowers78 := Mo.mo g83.s rpowers78; exact (e_mul (e_var (R := rI) rfl rfl) (e_var (R := rI) rfl rfl))) pm_nm))) pm_nm)))))) hm75 ?_
      intro found87 vfound95 S88 H89 s90 w91 p92 g94 rfound96 hm93
      have r_parting := Mo.mo g94.s r_parting
      have rpowers78 := Mo.mo g94.s rpowers78
      have eb54 := eb54.tr g94.s
      have ex62 := ex62.tr g94.s
      cases run_of_pure hm93
      exact (nx59 _ _ _ ⟨ex62, ⟨_, _, _, _, rfl, w91, p92, eb54, rfound96⟩⟩).1
    · rintro Sb12 st11 _ S108 H109 s110 ⟨_, ⟨vfound100, xp101, xoften102, xpowers103, rfl, w105, p106, eb107, rfound104⟩⟩ hm111
      have r_parting := Mo.mo eb107 r_parting
      refine q_retL w105 p106 (l_srt (Ev.rd (e_var rfl rfound104))) hm111 ?_
      intro r119 q120 vs121 S112 H113 s114 w115 p116 g118 rr122 hm117
      cases run_of_pure hm117
      exact fin _ ⟨S112, q120, vs121, rfl, w115.g, p116, (w115.at (i := 0) rfl).2.2, (w115.at (i := 0) rfl).1, (w115.at (i := 0) rfl).2.1, rr122⟩
end
abbrev t__law_sum : Stmt := top 56
theorem sc__law_sum : FnScope ["parting", "k", "found", "p", "often", "power", "j"] ["parting", "k"] (defScope t__law_sum) := ⟨rfl, rfl, rfl, by decide +kernel, rfl, by decide +kernel, by decide +kernel⟩
@[irreducible] noncomputable def m__law_sum (p_parting : (List (Int × Int))) (p_k : Int) : Option Int :=
bnd (1 : Int) fun found1 =>
(lpS p_parting (fun (x13 : (Int × Int)) (st11 : Int) =>
Mir.lft (m__law_raised x13.1 p_k) >>= fun r84 => bnd r84 fun power58 =>
Mir.lft (grd (RgB (x13.2 + (1 : Int)))) >>= fun _ => Mir.lft (grd (List.length (rng 0 (x13.2 + (1 : Int))) ≤ 16000000)) >>= fun _ => cmp (rng 0 (x13.2 + (1 : Int))) (fun x68 => Mir.lft (m__law_raised power58 x68) >>= fun r72 => pure (some r72)) >>= fun l83 => Mir.lft (grd (Sm st11 ∧ Sm (List.sum l83))) >>= fun _ => bnd (st11 * (List.sum l83)) fun found73 =>
pure found73) found1) >>= fun (st11 : Int) =>
bnd st11 fun r102 => pure r102
noncomputable abbrev fm__law_sum : ((List (Int × Int)) × Int) → Option Int := fun (a0, a1) => m__law_sum a0 a1
abbrev sp__law_sum (K : PySem.W.Frag) : Sp := spV F0 fm__law_sum (fun _ => (aCons (rT K (aAll (rT K (aCons rI (aOne rI))))) (aOne rI))) rI
section
variable {P : Program} {w : World} {K : PySem.W.Frag} {mg : Str → Option Value} {base : Heap}
theorem g__law_sum (T : Tx mg base) (D0 : Dk P w K mg base "_law_raised" "_law_raised" t__law_raised 1 ["number", "often"] (sp__law_raised K)) {f : Addr} {fd : FuncData} (F : Fun K "_law_sum" "_law_sum" t__law_sum f fd) : FnG P w K mg base CX0 2 f fd ["parting", "k"] (sp__law_sum K) := by
  obtain ⟨f0, fd0, F0, m0, G0, b0⟩ := D0
  refine okG0 F sc__law_sum (fun vs H Q E h => ?_) (fun cdv A outer s0_ H0 vs Q E hr gd h => ?_)
  · obtain ⟨_, _, _, _, _, _, _, _, ⟨_, _, rfl, _, ⟨_, rfl, _⟩⟩, _⟩ := h
    rfl
  · obtain ⟨_, a, S0, s0, r, s', e0, p0, ⟨v_parting, _, rfl, r_parting, ⟨_, rfl, rfl⟩⟩, hm0, fin0⟩ := h
    obtain ⟨p_parting, p_k⟩ := a
    have fin : ∀ v {H' : Hp}, (∃ S', Gm (pt0).M S0 H0 S' H' ∧ PotAt pt0 s' S' H' ∧ rI r v S') → Q v H' := fun v {H'} ⟨S', h1, h2, h3⟩ => fin0 v S' H' h1 h2 h3
    have w0 : Wd pt0 S0 H0 S0 H0 [] := Wd.start e0
    have hm0 : Mir.run (m__law_sum p_parting p_k) s0 = some (r, s') := hm0
    unfold m__law_sum at hm0
    have sc := sc__law_sum
    refine ⟨_, pss_cons (ps_set (i := 2) sc.nd rfl (by first | exact Or.inl rfl | exact Or.inr rfl) (pe_int)) (pss_cons (ps_for PassesOwn.never rfl (k_pit K (pv 0)) (k_gt K (pgs_cons (pg_name (i := 3) sc.nd rfl (by first | exact Or.inl rfl | exact Or.inr rfl)) (pgs_cons (pg_name (i := 4) sc.nd rfl (by first | exact Or.inl rfl | exact Or.inr rfl)) (pgs_nil)))) (pss_cons (ps_set (i := 5) sc.nd rfl (by first | exact Or.inl rfl | exact Or.inr rfl) (pe_cG G0 (hr.mono (by decide)) gd rfl m0 F0.kp b0 pass0 (pa_cons (pv 3) (pa_cons (pv 1) (pa_nil))))) (pss_cons (ps_set (i := 2) sc.nd rfl (by first | exact Or.inl rfl | exact Or.inr rfl) (pe_op op_mulX (pv 2) (pe_callB (k_sum K) (by rfl) T.n_sum (by decide +kernel) (pa_cons (pe_lc (own := [("j", 6)]) (g := (gName 6)) (tt := tYes) rfl sc.nd (pi_range1 rfl T.n_range (pa_cons (pe_op op_add (pv 4) (pe_int)) pa_nil)) (blkOk_by (N := ["parting", "k", "found", "p", "often", "power", "j"]) (sc := defScope t__law_sum) (by decide +kernel)) (fun _ _ _ _ _ => pg_name (i := 6) sc.nd rfl (by first | exact Or.inl rfl | exact Or.inr rfl)) (fun _ _ _ _ _ => pts_nil) (fun _ _ _ _ _ => pe_cG G0 (hr.mono (by decide)) gd rfl m0 F0.kp b0 pass0 (pa_cons (pv 5) (pa_cons (pv 6) (pa_nil))))) pa_nil)))) (pss_nil)))) (pss_cons (ps_ret (pv 2)) (pss_nil))), ?_⟩
    refine q_set (fun v => [some v_parting, some (.int p_k), some v, none, none, none, none]) (fun _ => rfl) w0 p0 e_cI hm0 ?_
    intro found1 vfound9 S2 H3 s4 w5 p6 g8 rfound10 hm7
    cases (show vfound9 = .int found1 from rfound10)
    have r_parting := Mo.mo g8.s r_parting
    refine q_for (p := pt0) w5 p6 (i_T (e_var rfl r_parting)) (g_tp (gq_cons (g_nm (R := rI)) (gq_one (g_nm (R := rI))))) hm7 (fun Sb12 st11 σ S' H' s' => Ex Sb12 S' ∧ (∃ (xp_ : Option V) (xoften_ : Option V) (xpower_ : Option V), σ = [some v_parting, some (.int p_k), some (.int st11), xp_, xoften_, xpower_, none] ∧ Wd pt0 S0 H0 S' H' [] ∧ PotAt pt0 s' S' H' ∧ Ex S2 S')) ?_ ?_ ?_ ?_ ?_
    · intro S14 H15 s16 w17 p18 g19
      have r_parting := Mo.mo g19.s r_parting
      exact ⟨Ex.rf, ⟨_, _, _, rfl, w17, p18, g19.s⟩⟩
    · rintro Sb12 st11 _ S26 H27 s28 ⟨ex29, ⟨xp20, xoften21, xpower22, rfl, w23, p24, eb25⟩⟩
      exact ⟨ex29, w23.i, p24, ownOk0⟩
    · rintro Sb12 st11 _ S36 H37 s38 S39 H40 ⟨ex42, ⟨xp30, xoften31, xpower32, rfl, w33, p34, eb35⟩⟩ g41
      exact ⟨ex42.tr g41.s, _, _, _, rfl, w33.go (Gm.up g41), PotAt.go p34 g41, eb35.tr g41.s⟩
    · rintro Sb12 x13 st11 _ σ57 S49 H50 s51 st11_ s2_ D_ ⟨ex56, ⟨xp43, xoften44, xpower45, rfl, w46, p47, eb48⟩⟩ hp hm52 nx53
      obtain ⟨_, ⟨_, rfl, rfl⟩, ⟨_, rfl, rfl⟩⟩ := hp
      have r_parting := Mo.mo eb48 r_parting
      refine q_set (fun v => [some v_parting, some (.int p_k), some (.int st11), some (.int x13.1), some (.int x13.2), some v, none]) (fun _ => rfl) w46 p47 (Ev.eta (e_call (E := E0) (fm := fm__law_raised) (R := rI) (a_cons (e_var (R := rI) rfl rfl) (a_one (e_var (R := rI) rfl rfl))))) hm52 ?_
      intro power58 vpower66 S59 H60 s61 w62 p63 g65 rpower67 hm64
      cases (show vpower66 = .int power58 from rpower67)
      have r_parting := Mo.mo g65.s r_parting
      have eb48 := eb48.tr g65.s
      have ex56 := ex56.tr g65.s
      refine q_set (fun v => [some v_parting, some (.int p_k), some v, some (.int x13.1), some (.int x13.2), some (.int power58), none]) (fun _ => rfl) w62 p63 (e_mul (e_var (R := rI) rfl rfl) (c_sum (EvL.rd (l_lc1 (γ := Int) (vs := [6]) (me := fun x68 k => Mir.lft (m__law_raised power58 x68) >>= fun r71 => k r71) (R' := rI) (i_R1 (e_add (e_var (R := rI) rfl rfl) e_cI)) ownOk0 (g_nm (R := rI)) (fun x σ' S hp => by obtain ⟨_, rfl, _⟩ := hp; rfl) (fun x68 σ' S1 H1 g69 hp => by have w70 := w62.go g69; obtain ⟨_, rfl, rfl⟩ := hp; have r_parting := Mo.mo g69.s r_parting; exact (Ev.eta (e_call (E := E0) (fm := fm__law_raised) (R := rI) (a_cons (e_var (R := rI) rfl rfl) (a_one (e_var (R := rI) rfl rfl)))))) pm_nm)))) hm64 ?_
      intro found73 vfound81 S74 H75 s76 w77 p78 g80 rfound82 hm79
      cases (show vfound81 = .int found73 from rfound82)
      have r_parting := Mo.mo g80.s r_parting
      have eb48 := eb48.tr g80.s
      have ex56 := ex56.tr g80.s
      cases run_of_pure hm79
      exact (nx53 _ _ _ ⟨ex56, ⟨_, _, _, rfl, w77, p78, eb48⟩⟩).1
    · rintro Sb12 st11 _ S91 H92 s93 ⟨_, ⟨xp85, xoften86, xpower87, rfl, w88, p89, eb90⟩⟩ hm94
      have r_parting := Mo.mo eb90 r_parting
      refine q_ret w88 p89 (e_var (R := rI) rfl rfl) hm94 ?_
      intro r102 v103 S95 H96 s97 w98 p99 g101 rr104 hm100
      cases run_of_pure hm100
      exact fin _ ⟨S95, w98.g, p99, rr104⟩
end
abbrev t__law_parting_of : Stmt := top 57
theorem sc__law_parting_of : FnScope ["pot", "most", "p", "some", "found", "size", "often", "most_often"] ["pot", "most"] (defScope t__law_parting_of) := ⟨rfl, rfl, rfl, by decide +kernel, rfl, by decide +kernel, by decide +kernel⟩
@[irreducible] noncomputable def m__law_parting_of (p_most : Int) : PM PotT (List (Int × Int)) :=
Mir.lft (grd (List.length ([(2 : Int), (3 : Int), (5 : Int), (7 : Int), (11 : Int), (13 : Int), (17 : Int), (19 : Int), (23 : Int), (29 : Int), (31 : Int), (37 : Int), (97 : Int), (101 : Int), (997 : Int), (1009 : Int), (10007 : Int), (99991 : Int), (999983 : Int)] : List Int) ≤ 16000000)) >>= fun _ => bnd ([(2 : Int), (3 : Int), (5 : Int), (7 : Int), (11 : Int), (13 : Int), (17 : Int), (19 : Int), (23 : Int), (29 : Int), (31 : Int), (37 : Int), (97 : Int), (101 : Int), (997 : Int), (1009 : Int), (10007 : Int), (99991 : Int), (999983 : Int)] : List Int) fun some1 =>
Mir.lft (grd (List.length ([] : List (Int × Int)) ≤ 16000000)) >>= fun _ => bnd ([] : List (Int × Int)) fun found11 =>
bnd (1 : Int) fun size22 =>
(lpS some1 (fun (x34 : Int) (st32 : (List (Int × Int)) × Int) =>
m__law_of (3 : Int) >>= fun r197 => (if (decide (r197 = (0 : Int))) = true then pure true else (if (decide (x34 < (6 : Int))) = true then m__law_of (2 : Int) >>= fun r199 => pure (decide (r199 = (0 : Int))) else pure false) >>= fun b198 => pure b198) >>= fun b196 => if b196 = true then
(bnd (0 : Int) fun often95 =>
m__law_of ((1 : Int) + (if (decide (x34 < (6 : Int))) = true then (6 : Int) else (1 : Int))) >>= fun r188 => bnd ((1 : Int) + r188) fun most_often105 =>
(whS many (fun (st115 : Int × Int) k => (if (decide (st115.2 < most_often105)) = true then Mir.lft (grd (Sm st115.1 ∧ Sm x34)) >>= fun _ => pure (decide ((st115.1 * x34) ≤ p_most)) else pure false) >>= fun b187 => k b187) (fun (st115 : Int × Int) =>
bnd (st115.2 + (1 : Int)) fun often146 =>
Mir.lft (grd (Sm st115.1 ∧ Sm x34)) >>= fun _ => bnd (st115.1 * x34) fun size156 =>
pure (size156, often146)) (st32.2, often95)) >>= fun (st115 : Int × Int) =>
(if (decide ((0 : Int) < st115.2)) = true then Mir.lft (grd (List.length ([(x34, st115.2)] : List (Int × Int)) ≤ 16000000)) >>= fun _ => pure ([(x34, st115.2)] : List (Int × Int)) else Mir.lft (grd (List.length ([] : List (Int × Int)) ≤ 16000000)) >>= fun _ => pure ([] : List (Int × Int))) >>= fun c183 => Mir.lft (grd (List.length st32.1 + List.length c183 ≤ 16000000)) >>= fun _ => bnd (st32.1 ++ c183) fun found173 =>
pure (found173, st115.1))
else
(pure (st32.1, st32.2))) (found11, size22)) >>= fun (st32 : (List (Int × Int)) × Int) =>
bnd st32.1 fun r220 => pure r220
noncomputable abbrev fm__law_parting_of : (Unit × Int) → PM PotT (List (Int × Int)) := fun (_, a1) => m__law_parting_of a1
abbrev sp__law_parting_of (K : PySem.W.Frag) : Sp := spV (fun i => potPt i) fm__law_parting_of (fun i => (aCons (rP i) (aOne rI))) (rT K (aAll (rT K (aCons rI (aOne rI)))))
section
variable {P : Program} {w : World} {K : PySem.W.Frag} {mg : Str → Option Value} {base : Heap}
theorem g__law_parting_of (T : Tx mg base) (D0 : Dk P w K mg base "_law_of" "_law_of" t__law_of 1 ["pot", "many"] (sp__law_of K)) {f : Addr} {fd : FuncData} (F : Fun K "_law_parting_of" "_law_parting_of" t__law_parting_of f fd) : FnG P w K mg base CX0 2 f fd ["pot", "most"] (sp__law_parting_of K) := by
  obtain ⟨f0, fd0, F0, m0, G0, b0⟩ := D0
  refine okG0 F sc__law_parting_of (fun vs H Q E h => ?_) (fun cdv A outer s0_ H0 vs Q E hr gd h => ?_)
  · obtain ⟨_, _, _, _, _, _, _, _, ⟨_, _, rfl, _, ⟨_, rfl, _⟩⟩, _⟩ := h
    rfl
  · obtain ⟨i, a, S0, s0, r, s', e0, p0, ⟨_, _, rfl, rfl, ⟨_, rfl, rfl⟩⟩, hm0, fin0⟩ := h
    obtain ⟨_, p_most⟩ := a
    have fin : ∀ v {H' : Hp}, (∃ S', Gm ((potPt i)).M S0 H0 S' H' ∧ PotAt (potPt i) s' S' H' ∧ (rT K (aAll (rT K (aCons rI (aOne rI))))) r v S') → Q v H' := fun v {H'} ⟨S', h1, h2, h3⟩ => fin0 v S' H' h1 h2 h3
    have w0 : Wd (potPt i) S0 H0 S0 H0 [] := Wd.start e0
    have hm0 : Mir.run (m__law_parting_of p_most) s0 = some (r, s') := hm0
    unfold m__law_parting_of at hm0
    have sc := sc__law_parting_of
    refine ⟨_, pss_cons (ps_par3 (i := 3) (j := 4) (l := 5) rfl sc.nd rfl rfl rfl (by decide) (by decide) (by decide) rfl rfl rfl (pa_cons (pe_lst (pa_cons (pe_int) (pa_cons (pe_int) (pa_cons (pe_int) (pa_cons (pe_int) (pa_cons (pe_int) (pa_cons (pe_int) (pa_cons (pe_int) (pa_cons (pe_int) (pa_cons (pe_int) (pa_cons (pe_int) (pa_cons (pe_int) (pa_cons (pe_int) (pa_cons (pe_int) (pa_cons (pe_int) (pa_cons (pe_int) (pa_cons (pe_int) (pa_cons (pe_int) (pa_cons (pe_int) (pa_cons (pe_int) (pa_nil))))))))))))))))))))) (pa_cons (pe_lst (pa_nil)) (pa_cons (pe_int) (pa_nil)))) (by rfl)) (pss_cons (ps_for PassesOwn.never rfl (k_pil K (pv 3)) (pg_name (i := 2) sc.nd rfl (by first | exact Or.inl rfl | exact Or.inr rfl)) (pss_cons (ps_if (PW.pt (pw_or (pt_cmpR op_eq (pe_cG G0 (hr.mono (by decide)) gd rfl m0 F0.kp b0 pass0 (pa_cons (pv 0) (pa_cons (pe_int) (pa_nil)))) (pe_int) (nomark _)) (pw_or1 (PW.pt (pw_and (pt_cmpR op_lt (pv 2) (pe_int) (nomark _)) (pw_and1 (pt_cmpR op_eq (pe_cG G0 (hr.mono (by decide)) gd rfl m0 F0.kp b0 pass0 (pa_cons (pv 0) (pa_cons (pe_int) (pa_nil)))) (pe_int) (nomark _)))))))) (pss_cons (ps_par (i := 6) (j := 7) rfl sc.nd rfl rfl (by decide) rfl rfl (pa_cons (pe_int) (pa_cons (pe_op op_add (pe_int) (pe_cG G0 (hr.mono (by decide)) gd rfl m0 F0.kp b0 pass0 (pa_cons (pv 0) (pa_cons (pe_op op_add (pe_int) (pe_ifExp (pt_cmpR op_lt (pv 2) (pe_int) (nomark _)) (pe_int) (pe_int))) (pa_nil))))) (pa_nil))) (by rfl)) (pss_cons (ps_while PassesOwn.never (PW.pt (pw_and (pt_cmpR op_lt (pv 6) (pv 7) (nomark _)) (pw_and1 (pt_cmpR op_le (pe_op op_mulX (pv 5) (pv 2)) (pv 1) (nomark _))))) (pss_cons (ps_par (i := 6) (j := 5) rfl sc.nd rfl rfl (by decide) rfl rfl (pa_cons (pe_op op_add (pv 6) (pe_int)) (pa_cons (pe_op op_mulX (pv 5) (pv 2)) (pa_nil))) (by rfl)) (pss_nil))) (pss_cons (ps_expr (pe_bm PySem.F.plainAttrs_list PySem.F.slot_list_extend PySem.F.type_list_extend mt_extend (pv 4) (pa_cons (pe_ifExp (pt_cmpR op_gt (pv 6) (pe_int) (nomark _)) (pe_lst (pa_cons (pe_tup (pa_cons (pv 2) (pa_cons (pv 6) (pa_nil)))) (pa_nil))) (pe_lst (pa_nil))) pa_nil))) (pss_nil)))) (pss_nil)) (pss_nil))) (pss_cons (ps_ret (pe_callTy (k_tupOf K) (by rfl) T.n_tuple (by decide +kernel) (pa_cons (pv 4) pa_nil))) (pss_nil))), ?_⟩
    refine par3_go ?_
    refine x_ev w0 p0 (EvL.frz (l_lstL (a_consL e_cI (a_consL e_cI (a_consL e_cI (a_consL e_cI (a_consL e_cI (a_consL e_cI (a_consL e_cI (a_consL e_cI (a_consL e_cI (a_consL e_cI (a_consL e_cI (a_consL e_cI (a_consL e_cI (a_consL e_cI (a_consL e_cI (a_consL e_cI (a_consL e_cI (a_consL e_cI (a_consL e_cI (a_nilL (R := rI))))))))))))))))))))))) hm0 ?_
    intro some1 vsome9 S2 H3 s4 w5 p6 g8 rsome10 hm7
    refine x_evL w5 p6 (l_lstL (a_nilL (R := (rT K (aCons rI (aOne rI)))))) hm7 ?_
    intro found11 q19 vs20 S12 H13 s14 w15 p16 g18 rfound21 hm17
    have rfound21 : All (rT K (aCons rI (aOne rI))) _ _ _ := rfound21
    have rsome10 := Mo.mo g18.s rsome10
    refine x_ev w15 p16 e_cI hm17 ?_
    intro size22 vsize30 S23 H24 s25 w26 p27 g29 rsize31 hm28
    cases (show vsize30 = .int size22 from rsize31)
    have rsome10 := Mo.mo g29.s rsome10
    have rfound21 := All.mo g29.s rfound21
    refine par3_end [some (.ref i.a), some (.int p_most), none, some vsome9, some (.ref q19), some (.int size22), none, none] rfl ?_
    refine q_for (p := (potPt i)) w26 p27 (i_L (K := K) (e_var rfl rsome10)) (g_nm (R := rI)) hm28 (fun Sb33 st32 σ S' H' s' => Ex Sb33 S' ∧ (∃ (xp_ : Option V) (qfound_ : Addr) (usfound_ : List V) (xoften_ : Option V) (xmost_often_ : Option V), σ = [some (.ref i.a), some (.int p_most), xp_, some vsome9, some (.ref qfound_), some (.int st32.2), xoften_, xmost_often_] ∧ Wd (potPt i) S0 H0 S' H' [(qfound_, .lst usfound_)] ∧ PotAt (potPt i) s' S' H' ∧ Ex S23 S' ∧ All (rT K (aCons rI (aOne rI))) S' st32.1 usfound_)) ?_ ?_ ?_ ?_ ?_
    · intro S35 H36 s37 w38 p39 g40
      have rsome10 := Mo.mo g40.s rsome10
      have rfound21 := All.mo g40.s rfound21
      exact ⟨Ex.rf, ⟨_, _, _, _, _, rfl, w38, p39, g40.s, rfound21⟩⟩
    · rintro Sb33 st32 _ S50 H51 s52 ⟨ex53, ⟨xp41, qfound42, usfound43, xoften44, xmost_often45, rfl, w47, p48, eb49, rfound46⟩⟩
      exact ⟨ex53, w47.i, p48, ownOk0⟩
    · rintro Sb33 st32 _ S63 H64 s65 S66 H67 ⟨ex69, ⟨xp54, qfound55, usfound56, xoften57, xmost_often58, rfl, w60, p61, eb62, rfound59⟩⟩ g68
      exact ⟨ex69.tr g68.s, _, _, _, _, _, rfl, w60.go (Gm.up g68), PotAt.go p61 g68, eb62.tr g68.s, All.mo g68.s rfound59⟩
    · rintro Sb33 x34 st32 _ σ87 S79 H80 s81 st32_ s2_ D_ ⟨ex86, ⟨xp70, qfound71, usfound72, xoften73, xmost_often74, rfl, w76, p77, eb78, rfound75⟩⟩ hp hm82 nx83
      obtain ⟨_, rfl, rfl⟩ := hp
      have rsome10 := Mo.mo eb78 rsome10
      refine q_if w76 p77 (t_or (t_Test (e_eq (Ev.eta (e_callP (F := fun i => potPt i) (i := i) (A := fun i => (aCons (rP i) (aOne rI))) (E := E0) (fm := fm__law_of) (R := rI) (a_cons (e_var (R := rP i) (a := ()) rfl rfl) (a_one e_cI)))) e_cI)) (t_and (t_Test (e_lt (e_var (R := rI) rfl rfl) e_cI)) (t_Test (e_eq (Ev.eta (e_callP (F := fun i => potPt i) (i := i) (A := fun i => (aCons (rP i) (aOne rI))) (E := E0) (fm := fm__law_of) (R := rI) (a_cons (e_var (R := rP i) (a := ()) rfl rfl) (a_one e_cI)))) e_cI)))) hm82 ?_ ?_
      · intro S88 H89 s90 w91 p92 g93 hm94
        have rsome10 := Mo.mo g93.s rsome10
        have rfound75 := All.mo g93.s rfound75
        have eb78 := eb78.tr g93.s
        have ex86 := ex86.tr g93.s
        refine par_go ?_
        refine x_ev w91 p92 e_cI hm94 ?_
        intro often95 voften103 S96 H97 s98 w99 p100 g102 roften104 hm101
        cases (show voften103 = .int often95 from roften104)
        have rsome10 := Mo.mo g102.s rsome10
        have rfound75 := All.mo g102.s rfound75
        have eb78 := eb78.tr g102.s
        have ex86 := ex86.tr g102.s
        refine x_ev w99 p100 (e_add e_cI (Ev.eta (e_callP (F := fun i => potPt i) (i := i) (A := fun i => (aCons (rP i) (aOne rI))) (E := E0) (fm := fm__law_of) (R := rI) (a_cons (e_var (R := rP i) (a := ()) rfl rfl) (a_one (e_add e_cI (e_ifT (R := rI) (t_Test (e_lt (e_var (R := rI) rfl rfl) e_cI)) e_cI e_cI))))))) hm101 ?_
        intro most_often105 vmost_often113 S106 H107 s108 w109 p110 g112 rmost_often114 hm111
        cases (show vmost_often113 = .int most_often105 from rmost_often114)
        have rsome10 := Mo.mo g112.s rsome10
        have rfound75 := All.mo g112.s rfound75
        have eb78 := eb78.tr g112.s
        have ex86 := ex86.tr g112.s
        refine par_end [some (.ref i.a), some (.int p_most), some (.int x34), some vsome9, some (.ref qfound71), some (.int st32.2), some (.int often95), some (.int most_often105)] rfl ?_
        refine q_wh (p := (potPt i)) (fun st115 σ S' H' s' => σ = [some (.ref i.a), some (.int p_most), some (.int x34), some vsome9, some (.ref qfound71), some (.int st115.1), some (.int st115.2), some (.int most_often105)] ∧ Wd (potPt i) S0 H0 S' H' [(qfound71, .lst usfound72)] ∧ PotAt (potPt i) s' S' H' ∧ Ex S106 S') ⟨rfl, w109, p110, Ex.rf⟩ hm111 ?_ ?_ ?_ ?_
        · rintro st115 _ S121 H122 s123 ⟨rfl, w118, p119, eb120⟩
          have rsome10 := Mo.mo eb120 rsome10
          have rfound75 := All.mo eb120 rfound75
          have eb78 := eb78.tr eb120
          have ex86 := ex86.tr eb120
          exact ⟨p119, w118.i, (t_and (t_Test (e_lt (e_var (R := rI) rfl rfl) (e_var (R := rI) rfl rfl))) (t_Test (e_le (e_mul (e_var (R := rI) rfl rfl) (e_var (R := rI) rfl rfl)) (e_var (R := rI) rfl rfl))))⟩
        · rintro st115 _ S127 H128 s129 S130 H131 s132 ⟨rfl, w124, p125, eb126⟩ g133 p134
          exact ⟨rfl, w124.go g133, p134, eb126.tr g133.s⟩
        · rintro st115 _ S138 H139 s140 st115_ s2_ D_ ⟨rfl, w135, p136, eb137⟩ hm141 nx142
          have rsome10 := Mo.mo eb137 rsome10
          have rfound75 := All.mo eb137 rfound75
          have eb78 := eb78.tr eb137
          have ex86 := ex86.tr eb137
          refine par_go ?_
          refine x_ev w135 p136 (e_add (e_var (R := rI) rfl rfl) e_cI) hm141 ?_
          intro often146 voften154 S147 H148 s149 w150 p151 g153 roften155 hm152
          cases (show voften154 = .int often146 from roften155)
          have rsome10 := Mo.mo g153.s rsome10
          have rfound75 := All.mo g153.s rfound75
          have eb78 := eb78.tr g153.s
          have ex86 := ex86.tr g153.s
          have eb137 := eb137.tr g153.s
          refine x_ev w150 p151 (e_mul (e_var (R := rI) rfl rfl) (e_var (R := rI) rfl rfl)) hm152 ?_
          intro size156 vsize164 S157 H158 s159 w160 p161 g163 rsize165 hm162
          cases (show vsize164 = .int size156 from rsize165)
          have rsome10 := Mo.mo g163.s rsome10
          have rfound75 := All.mo g163.s rfound75
          have eb78 := eb78.tr g163.s
          have ex86 := ex86.tr g163.s
          have eb137 := eb137.tr g163.s
          refine par_end [some (.ref i.a), some (.int p_most), some (.int x34), some vsome9, some (.ref qfound71), some (.int size156), some (.int often146), some (.int most_often105)] rfl ?_
          cases run_of_pure hm162
          exact (nx142 _ _ _ ⟨rfl, w160, p161, eb137⟩).1
        · rintro st115 _ S169 H170 s171 ⟨rfl, w166, p167, eb168⟩ hm172
          have rsome10 := Mo.mo eb168 rsome10
          have rfound75 := All.mo eb168 rfound75
          have eb78 := eb78.tr eb168
          have ex86 := ex86.tr eb168
          refine q_ext (j := 0) w166 p167 rfl rfl rfound75 (l_if (α := (List (Int × Int))) (t_Test (e_gt (e_var (R := rI) rfl rfl) e_cI)) (l_lstL (a_consL (e_tup (K := K) (a_cons (e_var (R := rI) rfl rfl) (a_one (e_var (R := rI) rfl rfl))) (arN_cons arN_one) (by decide)) (a_nilL (R := (rT K (aCons rI (aOne rI))))))) (l_lstL (a_nilL (R := (rT K (aCons rI (aOne rI))))))) hm172 ?_
          intro found173 vs174 S176 H177 s178 w179 p180 e182 rfound175 hm181
          have rsome10 := Mo.mo e182 rsome10
          have eb78 := eb78.tr e182
          have ex86 := ex86.tr e182
          refine nx_done ?_
          cases run_of_pure hm181
          exact (nx83 _ _ _ ⟨ex86, ⟨_, _, _, _, _, rfl, w179, p180, eb78, rfound175⟩⟩).1
      · intro S189 H190 s191 w192 p193 g194 hm195
        have rsome10 := Mo.mo g194.s rsome10
        have rfound75 := All.mo g194.s rfound75
        have eb78 := eb78.tr g194.s
        have ex86 := ex86.tr g194.s
        refine nx_done ?_
        cases run_of_pure hm195
        exact (nx83 _ _ _ ⟨ex86, ⟨_, _, _, _, _, rfl, w192, p193, eb78, rfound75⟩⟩).1
    · rintro Sb33 st32 _ S209 H210 s211 ⟨_, ⟨xp200, qfound201, usfound202, xoften203, xmost_often204, rfl, w206, p207, eb208, rfound205⟩⟩ hm212
      have rsome10 := Mo.mo eb208 rsome10
      refine q_ret w206 p207 (c_tup (K := K) (w_own (A := (aAll (rT K (aCons rI (aOne rI))))) (j := 0) w206 rfl rfl rfound205)) hm212 ?_
      intro r220 v221 S213 H214 s215 w216 p217 g219 rr222 hm218
      cases run_of_pure hm218
      exact fin _ ⟨S213, w216.g, p217, rr222⟩
end
abbrev t__law_small : Stmt := top 58
theorem sc__law_small : FnScope ["pot", "number", "parting"] ["pot"] (defScope t__law_small) := ⟨rfl, rfl, rfl, by decide +kernel, rfl, by decide +kernel, by decide +kernel⟩
@[irreducible] noncomputable def m__law_small  : PM PotT (Int × (List (Int × Int))) :=
Mir.lft (grd (List.length ([(12 : Int), (100 : Int), (1000 : Int), (10000 : Int)] : List Int) ≤ 16000000)) >>= fun _ => m__law_one ([(12 : Int), (100 : Int), (1000 : Int), (10000 : Int)] : List Int) >>= fun r60 => m__law_of r60 >>= fun r59 => bnd ((1 : Int) + r59) fun number1 =>
m__law_of (2 : Int) >>= fun r58 => if (decide (r58 = (0 : Int))) = true then
(Mir.lft (grd (Pw (10 : Int) (6 : Int))) >>= fun _ => m__law_parting_of ((10 : Int) ^ Int.toNat (6 : Int)) >>= fun r39 => bnd r39 fun parting18 =>
Mir.lft (m__law_told_number parting18) >>= fun r38 => bnd (r38, parting18) fun r35 => pure r35)
else
(Mir.lft (m__law_primes number1) >>= fun r57 => bnd (number1, r57) fun r54 => pure r54)
noncomputable abbrev fm__law_small : (Unit) → PM PotT (Int × (List (Int × Int))) := fun a => m__law_small
abbrev sp__law_small (K : PySem.W.Frag) : Sp := spV (fun i => potPt i) fm__law_small (fun i => (aOne (rP i))) (rT K (aCons rI (aOne (rT K (aAll (rT K (aCons rI (aOne rI))))))))
section
variable {P : Program} {w : World} {K : PySem.W.Frag} {mg : Str → Option Value} {base : Heap}
theorem g__law_small (T : Tx mg base) (D0 : Dk P w K mg base "_law_of" "_law_of" t__law_of 1 ["pot", "many"] (sp__law_of K)) (D1 : Dk P w K mg base "_law_one" "_law_one" t__law_one 2 ["pot", "items"] (sp__law_one K)) (D2 : Dk P w K mg base "_law_parting_of" "_law_parting_of" t__law_parting_of 2 ["pot", "most"] (sp__law_parting_of K)) (D3 : Dk P w K mg base "_law_told_number" "_law_told_number" t__law_told_number 2 ["parting"] (sp__law_told_number K)) (D4 : Dk P w K mg base "_law_primes" "_law_primes" t__law_primes 1 ["number"] (sp__law_primes K)) {f : Addr} {fd : FuncData} (F : Fun K "_law_small" "_law_small" t__law_small f fd) : FnG P w K mg base CX0 3 f fd ["pot"] (sp__law_small K) := by
  obtain ⟨f0, fd0, F0, m0, G0, b0⟩ := D0
  obtain ⟨f1, fd1, F1, m1, G1, b1⟩ := D1
  obtain ⟨f2, fd2, F2, m2, G2, b2⟩ := D2
  obtain ⟨f3, fd3, F3, m3, G3, b3⟩ := D3
  obtain ⟨f4, fd4, F4, m4, G4, b4⟩ := D4
  refine okG0 F sc__law_small (fun vs H Q E h => ?_) (fun cdv A outer s0_ H0 vs Q E hr gd h => ?_)
  · obtain ⟨_, _, _, _, _, _, _, _, ⟨_, rfl, _⟩, _⟩ := h
    rfl
  · obtain ⟨i, p_pot, S0, s0, r, s', e0, p0, ⟨_, rfl, rfl⟩, hm0, fin0⟩ := h
    have fin : ∀ v {H' : Hp}, (∃ S', Gm ((potPt i)).M S0 H0 S' H' ∧ PotAt (potPt i) s' S' H' ∧ (rT K (aCons rI (aOne (rT K (aAll (rT K (aCons rI (aOne rI)))))))) r v S') → Q v H' := fun v {H'} ⟨S', h1, h2, h3⟩ => fin0 v S' H' h1 h2 h3
    have w0 : Wd (potPt i) S0 H0 S0 H0 [] := Wd.start e0
    have hm0 : Mir.run (m__law_small ) s0 = some (r, s') := hm0
    unfold m__law_small at hm0
    have sc := sc__law_small
    refine ⟨_, pss_cons (ps_set (i := 1) sc.nd rfl (by first | exact Or.inl rfl | exact Or.inr rfl) (pe_op op_add (pe_int) (pe_cG G0 (hr.mono (by decide)) gd rfl m0 F0.kp b0 pass0 (pa_cons (pv 0) (pa_cons (pe_cG G1 (hr.mono (by decide)) gd rfl m1 F1.kp b1 pass0 (pa_cons (pv 0) (pa_cons (pe_lst (pa_cons (pe_int) (pa_cons (pe_int) (pa_cons (pe_int) (pa_cons (pe_int) (pa_nil)))))) (pa_nil)))) (pa_nil)))))) (pss_cons (ps_if (pt_cmpR op_eq (pe_cG G0 (hr.mono (by decide)) gd rfl m0 F0.kp b0 pass0 (pa_cons (pv 0) (pa_cons (pe_int) (pa_nil)))) (pe_int) (nomark _)) (pss_cons (ps_set (i := 2) sc.nd rfl (by first | exact Or.inl rfl | exact Or.inr rfl) (pe_cG G2 (hr.mono (by decide)) gd rfl m2 F2.kp b2 pass0 (pa_cons (pv 0) (pa_cons (pe_op op_pow (pe_int) (pe_int)) (pa_nil))))) (pss_cons (ps_ret (pe_tup (pa_cons (pe_cG G3 (hr.mono (by decide)) gd rfl m3 F3.kp b3 pass0 (pa_cons (pv 2) (pa_nil))) (pa_cons (pv 2) (pa_nil))))) (pss_nil))) (pss_nil)) (pss_cons (ps_ret (pe_tup (pa_cons (pv 1) (pa_cons (pe_cG G4 (hr.mono (by decide)) gd rfl m4 F4.kp b4 pass0 (pa_cons (pv 1) (pa_nil))) (pa_nil))))) (pss_nil))), ?_⟩
    refine q_set (fun v => [some (.ref i.a), some v, none]) (fun _ => rfl) w0 p0 (e_add e_cI (Ev.eta (e_callP (F := fun i => potPt i) (i := i) (A := fun i => (aCons (rP i) (aOne rI))) (E := E0) (fm := fm__law_of) (R := rI) (a_cons (e_var (R := rP i) (a := ()) rfl rfl) (a_one (Ev.eta (e_callP (F := fun i => potPt i) (i := i) (A := fun i => (aCons (rP i) (aOne (rL (aAll rI))))) (E := E0) (fm := fm__law_one) (R := rI) (a_cons (e_var (R := rP i) (a := ()) rfl rfl) (a_one (EvL.frz (l_lstL (a_consL e_cI (a_consL e_cI (a_consL e_cI (a_consL e_cI (a_nilL (R := rI))))))))))))))))) hm0 ?_
    intro number1 vnumber9 S2 H3 s4 w5 p6 g8 rnumber10 hm7
    cases (show vnumber9 = .int number1 from rnumber10)
    refine q_if w5 p6 (t_Test (e_eq (Ev.eta (e_callP (F := fun i => potPt i) (i := i) (A := fun i => (aCons (rP i) (aOne rI))) (E := E0) (fm := fm__law_of) (R := rI) (a_cons (e_var (R := rP i) (a := ()) rfl rfl) (a_one e_cI)))) e_cI)) hm7 ?_ ?_
    · intro S11 H12 s13 w14 p15 g16 hm17
      refine q_set (fun v => [some (.ref i.a), some (.int number1), some v]) (fun _ => rfl) w14 p15 (Ev.eta (e_callP (F := fun i => potPt i) (i := i) (A := fun i => (aCons (rP i) (aOne rI))) (E := E0) (fm := fm__law_parting_of) (R := (rT K (aAll (rT K (aCons rI (aOne rI)))))) (a_cons (e_var (R := rP i) (a := ()) rfl rfl) (a_one (e_pow e_cI e_cI))))) hm17 ?_
      intro parting18 vparting26 S19 H20 s21 w22 p23 g25 rparting27 hm24
      refine q_ret w22 p23 (e_tup (K := K) (a_cons (Ev.eta (e_call (E := E0) (fm := fm__law_told_number) (R := rI) (a_one (e_var rfl rparting27)))) (a_one (e_var rfl rparting27))) (arN_cons arN_one) (by decide)) hm24 ?_
      intro r35 v36 S28 H29 s30 w31 p32 g34 rr37 hm33
      cases run_of_pure hm33
      exact fin _ ⟨S28, w31.g, p32, rr37⟩
    · intro S40 H41 s42 w43 p44 g45 hm46
      refine nx_done ?_
      refine q_ret w43 p44 (e_tup (K := K) (a_cons (e_var (R := rI) rfl rfl) (a_one (Ev.eta (e_call (E := E0) (fm := fm__law_primes) (R := (rT K (aAll (rT K (aCons rI (aOne rI)))))) (a_one (e_var (R := rI) rfl rfl)))))) (arN_cons arN_one) (by decide)) hm46 ?_
      intro r54 v55 S47 H48 s49 w50 p51 g53 rr56 hm52
      cases run_of_pure hm52
      exact fin _ ⟨S47, w50.g, p51, rr56⟩
end
abbrev t__law_are_known_right : Stmt := top 59
theorem sc__law_are_known_right : FnScope ["pot", "p", "perfect", "due", "one", "other"] ["pot"] (defScope t__law_are_known_right) := ⟨rfl, rfl, rfl, by decide +kernel, rfl, by decide +kernel, by decide +kernel⟩
@[irreducible] noncomputable def m__law_are_known_right  : PM PotT Bool :=
Mir.lft (grd (List.length ([(2 : Int), (3 : Int), (5 : Int), (7 : Int), (13 : Int), (17 : Int), (19 : Int)] : List Int) ≤ 16000000)) >>= fun _ => m__law_one ([(2 : Int), (3 : Int), (5 : Int), (7 : Int), (13 : Int), (17 : Int), (19 : Int)] : List Int) >>= fun r114 => bnd r114 fun p1 =>
Mir.lft (m_even_perfect p1) >>= fun r113 => bnd r113 fun perfect11 =>
Mir.lft (grd (Sl (1 : Int) (p1 - (1 : Int)))) >>= fun _ => Mir.lft (grd (Sl (1 : Int) p1)) >>= fun _ => Mir.lft (grd (Sm ((1 : Int) * 2 ^ Int.toNat (p1 - (1 : Int))) ∧ Sm (((1 : Int) * 2 ^ Int.toNat p1) - (1 : Int)))) >>= fun _ => (if (!decide (perfect11 = (((1 : Int) * 2 ^ Int.toNat (p1 - (1 : Int))) * (((1 : Int) * 2 ^ Int.toNat p1) - (1 : Int))))) = true then pure true else Mir.lft (m_perfect_exponent perfect11) >>= fun r111 => (if (!decide (r111 = (some p1))) = true then pure true else Mir.lft (m_kind_of (6 : Int)) >>= fun r112 => pure (!decide (r112 = ("whole" : Str)))) >>= fun b110 => pure b110) >>= fun b109 => if b109 = true then
(bnd false fun r35 => pure r35)
else
(Mir.lft (m_is_perfect perfect11) >>= fun r107 => (if (!decide (r107 = true)) = true then pure true else Mir.lft (m_share_of perfect11) >>= fun r108 => pure (!decide (r108 = ((2 : Int), (1 : Int))))) >>= fun b106 => if b106 = true then
(bnd false fun r59 => pure r59)
else
(Mir.lft (grd (List.length ([((6 : Int), (28 : Int)), ((30 : Int), (140 : Int)), ((80 : Int), (200 : Int)), ((6 : Int), (8128 : Int)), ((12 : Int), (234 : Int)), ((6 : Int), (6 : Int)), ((10 : Int), (14 : Int)), ((40 : Int), (224 : Int))] : List (Int × Int)) ≤ 16000000)) >>= fun _ => m__law_one_b ([((6 : Int), (28 : Int)), ((30 : Int), (140 : Int)), ((80 : Int), (200 : Int)), ((6 : Int), (8128 : Int)), ((12 : Int), (234 : Int)), ((6 : Int), (6 : Int)), ((10 : Int), (14 : Int)), ((40 : Int), (224 : Int))] : List (Int × Int)) >>= fun r105 => bnd r105 fun t69 =>
(if (!decide (t69.1 = t69.2)) = true then Mir.lft (m_share_of t69.1) >>= fun r103 => Mir.lft (m_share_of t69.2) >>= fun r104 => pure (decide (r103 = r104)) else pure false) >>= fun b102 => bnd b102 fun due78 =>
Mir.lft (m_are_friends t69.1 t69.2) >>= fun r99 => Mir.lft (m_are_friends t69.1 t69.2) >>= fun r100 => Mir.lft (grd (List.length ([r99, r100] : List Bool) ≤ 16000000)) >>= fun _ => bnd (PyData.list (List.map PyData.bool ([r99, r100] : List Bool))) fun d98 => Mir.lft (grd (OkD d98)) >>= fun _ => Mir.lft (grd (List.length ([due78, due78] : List Bool) ≤ 16000000)) >>= fun _ => bnd (PyData.list (List.map PyData.bool ([due78, due78] : List Bool))) fun d101 => Mir.lft (grd (OkD d101)) >>= fun _ => Mir.lft (grP (d98 = d101)) >>= fun _ => bnd true fun r95 => pure r95))
noncomputable abbrev fm__law_are_known_right : (Unit) → PM PotT Bool := fun a => m__law_are_known_right
abbrev sp__law_are_known_right (K : PySem.W.Frag) : Sp := spV (fun i => potPt i) fm__law_are_known_right (fun i => (aOne (rP i))) rB
section
variable {P : Program} {w : World} {K : PySem.W.Frag} {mg : Str → Option Value} {base : Heap}
theorem g__law_are_known_right (T : Tx mg base) (D0 : Dk P w K mg base "_law_one" "_law_one" t__law_one 2 ["pot", "items"] (sp__law_one K)) (D1 : Dk P w K mg base "even_perfect" "even_perfect" t_even_perfect 5 ["p"] (sp_even_perfect K)) (D2 : Dk P w K mg base "perfect_exponent" "perfect_exponent" t_perfect_exponent 5 ["value"] (sp_perfect_exponent K)) (D3 : Dk P w K mg base "kind_of" "kind_of" t_kind_of 7 ["number"] (sp_kind_of K)) (D4 : Dk P w K mg base "is_perfect" "is_perfect" t_is_perfect 6 ["number"] (sp_is_perfect K)) (D5 : Dk P w K mg base "share_of" "share_of" t_share_of 6 ["number"] (sp_share_of K)) (D6 : Dk P w K mg base "_law_one" "_law_one" t__law_one_b 2 ["pot", "items"] (sp__law_one_b K)) (D7 : Dk P w K mg base "are_friends" "are_friends" t_are_friends 7 ["one", "other"] (sp_are_friends K)) {f : Addr} {fd : FuncData} (F : Fun K "_law_are_known_right" "_law_are_known_right" t__law_are_known_right f fd) : FnG P w K mg base CX0 8 f fd ["pot"] (sp__law_are_known_right K) := by
  obtain ⟨f0, fd0, F0, m0, G0, b0⟩ := D0
  obtain ⟨f1, fd1, F1, m1, G1, b1⟩ := D1
  obtain ⟨f2, fd2, F2, m2, G2, b2⟩ := D2
  obtain ⟨f3, fd3, F3, m3, G3, b3⟩ := D3
  obtain ⟨f4, fd4, F4, m4, G4, b4⟩ := D4
  obtain ⟨f5, fd5, F5, m5, G5, b5⟩ := D5
  obtain ⟨f6, fd6, F6, m6, G6, b6⟩ := D6
  obtain ⟨f7, fd7, F7, m7, G7, b7⟩ := D7
  refine okG0 F sc__law_are_known_right (fun vs H Q E h => ?_) (fun cdv A outer s0_ H0 vs Q E hr gd h => ?_)
  · obtain ⟨_, _, _, _, _, _, _, _, ⟨_, rfl, _⟩, _⟩ := h
    rfl
  · obtain ⟨i, p_pot, S0, s0, r, s', e0, p0, ⟨_, rfl, rfl⟩, hm0, fin0⟩ := h
    have fin : ∀ v {H' : Hp}, (∃ S', Gm ((potPt i)).M S0 H0 S' H' ∧ PotAt (potPt i) s' S' H' ∧ rB r v S') → Q v H' := fun v {H'} ⟨S', h1, h2, h3⟩ => fin0 v S' H' h1 h2 h3
    have w0 : Wd (potPt i) S0 H0 S0 H0 [] := Wd.start e0
    have hm0 : Mir.run (m__law_are_known_right ) s0 = some (r, s') := hm0
    unfold m__law_are_known_right at hm0
    have sc := sc__law_are_known_right
    refine ⟨_, pss_cons (ps_set (i := 1) sc.nd rfl (by first | exact Or.inl rfl | exact Or.inr rfl) (pe_cG G0 (hr.mono (by decide)) gd rfl m0 F0.kp b0 pass0 (pa_cons (pv 0) (pa_cons (pe_lst (pa_cons (pe_int) (pa_cons (pe_int) (pa_cons (pe_int) (pa_cons (pe_int) (pa_cons (pe_int) (pa_cons (pe_int) (pa_cons (pe_int) (pa_nil))))))))) (pa_nil))))) (pss_cons (ps_set (i := 2) sc.nd rfl (by first | exact Or.inl rfl | exact Or.inr rfl) (pe_cG G1 (hr.mono (by decide)) gd rfl m1 F1.kp b1 pass0 (pa_cons (pv 1) (pa_nil)))) (pss_cons (ps_if (PW.pt (pw_or (pt_cmpR op_ne (pv 2) (pe_op op_mulX (pe_op op_shlW (pe_int) (pe_op op_sub (pv 1) (pe_int))) (pe_op op_sub (pe_op op_shlW (pe_int) (pv 1)) (pe_int))) (nomark _)) (pw_or (pt_cmpR (k_neD K hr) (pe_cGK0 (ks := ["value"]) (ix := [0]) G2 (hr.mono (by decide)) gd rfl m2 F2.kp (Fun.kb F2 (ps := ["value"]) (ks := ["value"]) (n := 0) (ix := [0]) fun _ _ _ _ _ _ us ws h1 h2 => match us, ws, h1, h2 with | [], [_], _, _ => rfl) pass0 (pk_cons (pv 2) (pk_nil))) (pv 1) (nomark _)) (pw_or1 (pt_cmpR op_ne (pe_cG G3 (hr.mono (by decide)) gd rfl m3 F3.kp b3 pass0 (pa_cons (pe_int) (pa_nil))) (pe_str) (nomark _)))))) (pss_cons (ps_ret (pe_bl)) (pss_nil)) (pss_nil)) (pss_cons (ps_if (PW.pt (pw_or (pt_cmpR op_notBl (pe_cG G4 (hr.mono (by decide)) gd rfl m4 F4.kp b4 pass0 (pa_cons (pv 2) (pa_nil))) (pe_bl) (nomark _)) (pw_or1 (pt_cmpR (k_neD K hr) (pe_cG G5 (hr.mono (by decide)) gd rfl m5 F5.kp b5 pass0 (pa_cons (pv 2) (pa_nil))) (pe_tup (pa_cons (pe_int) (pa_cons (pe_int) (pa_nil)))) (nomark _))))) (pss_cons (ps_ret (pe_bl)) (pss_nil)) (pss_nil)) (pss_cons (ps_asg (pe_cG G6 (hr.mono (by decide)) gd rfl m6 F6.kp b6 pass0 (pa_cons (pv 0) (pa_cons (pe_lst (pa_cons (pe_tup (pa_cons (pe_int) (pa_cons (pe_int) (pa_nil)))) (pa_cons (pe_tup (pa_cons (pe_int) (pa_cons (pe_int) (pa_nil)))) (pa_cons (pe_tup (pa_cons (pe_int) (pa_cons (pe_int) (pa_nil)))) (pa_cons (pe_tup (pa_cons (pe_int) (pa_cons (pe_int) (pa_nil)))) (pa_cons (pe_tup (pa_cons (pe_int) (pa_cons (pe_int) (pa_nil)))) (pa_cons (pe_tup (pa_cons (pe_int) (pa_cons (pe_int) (pa_nil)))) (pa_cons (pe_tup (pa_cons (pe_int) (pa_cons (pe_int) (pa_nil)))) (pa_cons (pe_tup (pa_cons (pe_int) (pa_cons (pe_int) (pa_nil)))) (pa_nil)))))))))) (pa_nil)))) (k_gt K (pgs_cons (pg_name (i := 4) sc.nd rfl (by first | exact Or.inl rfl | exact Or.inr rfl)) (pgs_cons (pg_name (i := 5) sc.nd rfl (by first | exact Or.inl rfl | exact Or.inr rfl)) (pgs_nil))))) (pss_cons (ps_set (i := 3) sc.nd rfl (by first | exact Or.inl rfl | exact Or.inr rfl) (pe_and (pe_cmpR op_ne (pv 4) (pv 5) (nomark _)) (pe_one (pe_cmpR (k_eqD K hr) (pe_cG G5 (hr.mono (by decide)) gd rfl m5 F5.kp b5 pass0 (pa_cons (pv 4) (pa_nil))) (pe_cG G5 (hr.mono (by decide)) gd rfl m5 F5.kp b5 pass0 (pa_cons (pv 5) (pa_nil))) (nomark _))))) (pss_cons (ps_ret (pe_cmpR op_eq (pe_callB (k_repr K hr gd T.nd) (by rfl) T.n_repr (by decide +kernel) (pa_cons (pe_lst (pa_cons (pe_cG G7 (hr.mono (by decide)) gd rfl m7 F7.kp b7 pass0 (pa_cons (pv 4) (pa_cons (pv 5) (pa_nil)))) (pa_cons (pe_cGK0 (ks := ["other", "one"]) (ix := [1, 0]) G7 (hr.mono (by decide)) gd rfl m7 F7.kp (Fun.kb F7 (ps := ["one", "other"]) (ks := ["other", "one"]) (n := 0) (ix := [1, 0]) fun _ _ _ _ _ _ us ws h1 h2 => match us, ws, h1, h2 with | [], [_, _], _, _ => rfl) pass0 (pk_cons (pv 5) (pk_cons (pv 4) (pk_nil)))) (pa_nil)))) pa_nil)) (pe_callB (k_repr K hr gd T.nd) (by rfl) T.n_repr (by decide +kernel) (pa_cons (pe_lst (pa_cons (pv 3) (pa_cons (pv 3) (pa_nil)))) pa_nil)) (nomark _))) (pss_nil))))))), ?_⟩
    refine q_set (fun v => [some (.ref i.a), some v, none, none, none, none]) (fun _ => rfl) w0 p0 (Ev.eta (e_callP (F := fun i => potPt i) (i := i) (A := fun i => (aCons (rP i) (aOne (rL (aAll rI))))) (E := E0) (fm := fm__law_one) (R := rI) (a_cons (e_var (R := rP i) (a := ()) rfl rfl) (a_one (EvL.frz (l_lstL (a_consL e_cI (a_consL e_cI (a_consL e_cI (a_consL e_cI (a_consL e_cI (a_consL e_cI (a_consL e_cI (a_nilL (R := rI))))))))))))))) hm0 ?_
    intro p1 vp9 S2 H3 s4 w5 p6 g8 rp10 hm7
    cases (show vp9 = .int p1 from rp10)
    refine q_set (fun v => [some (.ref i.a), some (.int p1), some v, none, none, none]) (fun _ => rfl) w5 p6 (Ev.eta (e_call (E := E0) (fm := fm_even_perfect) (R := rI) (a_one (e_var (R := rI) rfl rfl)))) hm7 ?_
    intro perfect11 vperfect19 S12 H13 s14 w15 p16 g18 rperfect20 hm17
    cases (show vperfect19 = .int perfect11 from rperfect20)
    refine q_if w15 p16 (t_or (t_Test (e_ne (e_var (R := rI) rfl rfl) (e_mul (e_shl e_cI (e_sub (e_var (R := rI) rfl rfl) e_cI)) (e_sub (e_shl e_cI (e_var (R := rI) rfl rfl)) e_cI)))) (t_or (t_Test (e_neQ (q_O q_I nn_I) (by decide) (Ev.Q (e_callK (E := E0) (n := 0) (m' := 1) (ix := [0]) (fm := fm_perfect_exponent) (A := (aOne rI)) (A1 := aNil) (A2 := (aOne rI)) (R := (rO rI)) (fun a b => b) a_nil (a_one (e_var (R := rI) rfl rfl)) (fun a b vs zs S h1 h2 => by obtain rfl := h1; obtain ⟨_, rfl, y0⟩ := h2; exact ⟨rfl, rfl, ⟨_, rfl, y0⟩⟩)) (d_O d_I)) (Ev.Q (Ev.some (e_var (R := rI) rfl rfl)) (d_O d_I)))) (t_Test (e_ne (Ev.eta (e_call (E := E0) (fm := fm_kind_of) (R := rS) (a_one e_cI))) e_cS)))) hm17 ?_ ?_
    · intro S21 H22 s23 w24 p25 g26 hm27
      refine q_ret w24 p25 e_cB hm27 ?_
      intro r35 v36 S28 H29 s30 w31 p32 g34 rr37 hm33
      cases run_of_pure hm33
      exact fin _ ⟨S28, w31.g, p32, rr37⟩
    · intro S38 H39 s40 w41 p42 g43 hm44
      refine nx_done ?_
      refine q_if w41 p42 (t_or (t_Test (e_notB (Ev.eta (e_call (E := E0) (fm := fm_is_perfect) (R := rB) (a_one (e_var (R := rI) rfl rfl)))) e_cB)) (t_Test (e_neQ (q_T (qs_cons q_I (qs_one q_I))) (by decide) (Ev.Q (Ev.eta (e_call (E := E0) (fm := fm_share_of) (R := (rT K (aCons rI (aOne rI)))) (a_one (e_var (R := rI) rfl rfl)))) (d_T (ds_cons d_I (ds_one d_I)))) (Ev.Q (e_tup (K := K) (a_cons e_cI (a_one e_cI)) (arN_cons arN_one) (by decide)) (d_T (ds_cons d_I (ds_one d_I))))))) hm44 ?_ ?_
      · intro S45 H46 s47 w48 p49 g50 hm51
        refine q_ret w48 p49 e_cB hm51 ?_
        intro r59 v60 S52 H53 s54 w55 p56 g58 rr61 hm57
        cases run_of_pure hm57
        exact fin _ ⟨S52, w55.g, p56, rr61⟩
      · intro S62 H63 s64 w65 p66 g67 hm68
        refine nx_done ?_
        refine q_unp w65 p66 (Ev.eta (e_callP (F := fun i => potPt i) (i := i) (A := fun i => (aCons (rP i) (aOne (rL (aAll (rT K (aCons rI (aOne rI)))))))) (E := E0) (fm := fm__law_one_b) (R := (rT K (aCons rI (aOne rI)))) (a_cons (e_var (R := rP i) (a := ()) rfl rfl) (a_one (EvL.frz (l_lstL (a_consL (e_tup (K := K) (a_cons e_cI (a_one e_cI)) (arN_cons arN_one) (by decide)) (a_consL (e_tup (K := K) (a_cons e_cI (a_one e_cI)) (arN_cons arN_one) (by decide)) (a_consL (e_tup (K := K) (a_cons e_cI (a_one e_cI)) (arN_cons arN_one) (by decide)) (a_consL (e_tup (K := K) (a_cons e_cI (a_one e_cI)) (arN_cons arN_one) (by decide)) (a_consL (e_tup (K := K) (a_cons e_cI (a_one e_cI)) (arN_cons arN_one) (by decide)) (a_consL (e_tup (K := K) (a_cons e_cI (a_one e_cI)) (arN_cons arN_one) (by decide)) (a_consL (e_tup (K := K) (a_cons e_cI (a_one e_cI)) (arN_cons arN_one) (by decide)) (a_consL (e_tup (K := K) (a_cons e_cI (a_one e_cI)) (arN_cons arN_one) (by decide)) (a_nilL (R := (rT K (aCons rI (aOne rI))))))))))))))))))) (g_tp (gq_cons (g_nm (R := rI)) (gq_one (g_nm (R := rI))))) hm68 ?_
        intro t69 σ77 S70 H71 s72 w73 p74 g76 hp hm75
        obtain ⟨_, ⟨_, rfl, rfl⟩, ⟨_, rfl, rfl⟩⟩ := hp
        refine q_set (fun v => [some (.ref i.a), some (.int p1), some (.int perfect11), some v, some (.int t69.1), some (.int t69.2)]) (fun _ => rfl) w73 p74 (e_and (e_ne (e_var (R := rI) rfl rfl) (e_var (R := rI) rfl rfl)) (e_eqQ (q_T (qs_cons q_I (qs_one q_I))) (by decide) (Ev.Q (Ev.eta (e_call (E := E0) (fm := fm_share_of) (R := (rT K (aCons rI (aOne rI)))) (a_one (e_var (R := rI) rfl rfl)))) (d_T (ds_cons d_I (ds_one d_I)))) (Ev.Q (Ev.eta (e_call (E := E0) (fm := fm_share_of) (R := (rT K (aCons rI (aOne rI)))) (a_one (e_var (R := rI) rfl rfl)))) (d_T (ds_cons d_I (ds_one d_I)))))) hm75 ?_
        intro due78 vdue86 S79 H80 s81 w82 p83 g85 rdue87 hm84
        cases (show vdue86 = .bl due78 from rdue87)
        refine q_ret w82 p83 (e_eqW (c_repr (EvL.frz (l_lstL (a_consL (Ev.eta (e_call (E := E0) (fm := fm_are_friends) (R := rB) (a_cons (e_var (R := rI) rfl rfl) (a_one (e_var (R := rI) rfl rfl))))) (a_consL (e_callK (E := E0) (n := 0) (m' := 2) (ix := [1, 0]) (fm := fm_are_friends) (A := (aCons rI (aOne rI))) (A1 := aNil) (A2 := (aCons rI (aOne rI))) (R := rB) (fun a b => (b.2, b.1)) a_nil (a_cons (e_var (R := rI) rfl rfl) (a_one (e_var (R := rI) rfl rfl))) (fun a b vs zs S h1 h2 => by obtain rfl := h1; obtain ⟨_, _, rfl, y0, ⟨_, rfl, y1⟩⟩ := h2; exact ⟨rfl, rfl, ⟨_, _, rfl, y1, ⟨_, rfl, y0⟩⟩⟩)) (a_nilL (R := rB)))))) (d_L (ds_all d_B))) (c_repr (EvL.frz (l_lstL (a_consL (e_var (R := rB) rfl rfl) (a_consL (e_var (R := rB) rfl rfl) (a_nilL (R := rB)))))) (d_L (ds_all d_B)))) hm84 ?_
        intro r95 v96 S88 H89 s90 w91 p92 g94 rr97 hm93
        cases run_of_pure hm93
        exact fin _ ⟨S88, w91.g, p92, rr97⟩
end
abbrev t__law_pot : Stmt := top 46
theorem sc__law_pot : FnScope ["script", "cell", "cells", "mixed"] ["script"] (defScope t__law_pot) := ⟨rfl, rfl, rfl, by decide +kernel, rfl, by decide +kernel, by decide +kernel⟩
@[irreducible] noncomputable def m__law_pot (p_script : List Int) : Option PotT :=
Mir.lft (grd (List.length (cut p_script none (some (63 : Int))) ≤ 16000000)) >>= fun _ => cmp (cut p_script none (some (63 : Int))) (fun x1 => Mir.lft (grd (Sm (2 : Int) ∧ Sm (if x1 < 0 then -x1 else x1))) >>= fun _ => pure (some (((2 : Int) * (if x1 < 0 then -x1 else x1)) + (if (decide (x1 < (0 : Int))) = true then (1 : Int) else 0)))) >>= fun l96 => bnd l96 fun cells4 =>
Mir.lft (grd (Sm (73 : Int) ∧ Sm (List.length p_script : Int))) >>= fun _ => bnd ((19592 : Int) + ((73 : Int) * (List.length p_script : Int))) fun mixed14 =>
(lpS cells4 (fun (x26 : Int) (st24 : Int) =>
Mir.lft (grd (Sm st24 ∧ Sm (69069 : Int))) >>= fun _ => Mir.lft (grd (0 < (4294967291 : Int))) >>= fun _ => bnd ((((st24 * (69069 : Int)) + x26) + (11 : Int)) % (4294967291 : Int)) fun mixed65 =>
pure mixed65) mixed14) >>= fun (st24 : Int) =>
Mir.lft (grd (List.length cells4 ≤ 16000000)) >>= fun _ => cmp cells4 (fun x83 => Mir.lft (grd (Pw (10 : Int) (12 : Int))) >>= fun _ => if (decide (((10 : Int) ^ Int.toNat (12 : Int)) < x83)) = true then pure (some x83) else pure none) >>= fun l95 => bnd (PotT.mk l95 st24 0) fun r93 => pure r93
abbrev sp__law_pot (K : PySem.W.Frag) : Sp := spP potHd m__law_pot K
section
variable {P : Program} {w : World} {K : PySem.W.Frag} {mg : Str → Option Value} {base : Heap}
theorem g__law_pot (T : Tx mg base)  {f : Addr} {fd : FuncData} (F : Fun K "_law_pot" "_law_pot" t__law_pot f fd) : FnG P w K mg base CX0 1 f fd ["script"] (sp__law_pot K) := by
  refine okG0 F sc__law_pot (fun vs H Q E h => ?_) (fun cdv A outer s0_ H0 vs Q E hr gd h => ?_)
  · obtain ⟨_, _, _, _, ⟨_, rfl, _⟩, _⟩ := h
    rfl
  · obtain ⟨p_script, S0, sP, e0, ⟨v_script, rfl, r_script⟩, hf, fin0⟩ := h
    have p0 : PotAt pt0 () S0 H0 := pot0
    have hm0 : Mir.run (m__law_pot p_script) () = some (sP, ()) := by show (m__law_pot p_script).map _ = _; rw [hf]; rfl
    have w0 : Wd pt0 S0 H0 S0 H0 [] := Wd.start e0
    unfold m__law_pot at hm0
    have sc := sc__law_pot
    refine ⟨_, pss_cons (ps_par (i := 2) (j := 3) rfl sc.nd rfl rfl (by decide) rfl rfl (pa_cons (pe_lc (own := [("cell", 1)]) (g := (gName 1)) (tt := tYes) rfl sc.nd (k_pil K (pe_slice (k_sll K) (pv 0) (po_none) (po_some (pe_int)))) (blkOk_by (N := ["script", "cell", "cells", "mixed"]) (sc := defScope t__law_pot) (by decide +kernel)) (fun _ _ _ _ _ => pg_name (i := 1) sc.nd rfl (by first | exact Or.inl rfl | exact Or.inr rfl)) (fun _ _ _ _ _ => pts_nil) (fun _ _ _ _ _ => pe_op op_add (pe_op op_mulX (pe_int) (pe_callB call_abs (by rfl) T.n_abs (by decide +kernel) (pa_cons (pv 1) pa_nil))) (pe_callTy call_int1 (by rfl) T.n_int (by decide +kernel) (pa_cons (pe_cmpR op_lt (pv 1) (pe_int) (nomark _)) pa_nil)))) (pa_cons (pe_op op_add (pe_int) (pe_op op_mulX (pe_int) (pe_callB (k_len K) (by rfl) T.n_len (by decide +kernel) (pa_cons (pv 0) pa_nil)))) (pa_nil))) (by rfl)) (pss_cons (ps_for PassesOwn.never rfl (k_pil K (pv 2)) (pg_name (i := 1) sc.nd rfl (by first | exact Or.inl rfl | exact Or.inr rfl)) (pss_cons (ps_set (i := 3) sc.nd rfl (by first | exact Or.inl rfl | exact Or.inr rfl) (pe_op op_mod (pe_op op_add (pe_op op_add (pe_op op_mulX (pv 3) (pe_int)) (pv 1)) (pe_int)) (pe_int))) (pss_nil))) (pss_cons (ps_ret (pe_lst (pa_cons (pe_lc (own := [("cell", 1)]) (g := (gName 1)) rfl sc.nd (k_pil K (pv 2)) (blkOk_by (N := ["script", "cell", "cells", "mixed"]) (sc := defScope t__law_pot) (by decide +kernel)) (fun _ _ _ _ _ => pg_name (i := 1) sc.nd rfl (by first | exact Or.inl rfl | exact Or.inr rfl)) (fun _ _ _ _ _ => pts_one (pt_cmpR op_gt (pv 1) (pe_op op_pow (pe_int) (pe_int)) (nomark _))) (fun _ _ _ _ _ => pv 1)) (pa_cons (pv 3) (pa_cons pe_int pa_nil))))) (pss_nil))), ?_⟩
    refine par_go ?_
    refine x_ev w0 p0 (EvL.frz (l_lc1 (γ := Int) (vs := [1]) (me := fun x1 k => Mir.lft (grd (Sm (2 : Int) ∧ Sm (if x1 < 0 then -x1 else x1))) >>= fun _ => k (((2 : Int) * (if x1 < 0 then -x1 else x1)) + (if (decide (x1 < (0 : Int))) = true then (1 : Int) else 0))) (R' := rI) (i_L (K := K) (EvL.frz (l_cutX (e_var rfl r_script) o_no (o_some e_cI)))) ownOk0 (g_nm (R := rI)) (fun x σ' S hp => by obtain ⟨_, rfl, _⟩ := hp; rfl) (fun x1 σ' S1 H1 g2 hp => by have w3 := w0.go g2; obtain ⟨_, rfl, rfl⟩ := hp; have r_script := Mo.mo g2.s r_script; exact (e_add (e_mul e_cI (c_abs (e_var (R := rI) rfl rfl))) (c_intB (e_lt (e_var (R := rI) rfl rfl) e_cI)))) pm_nm)) hm0 ?_
    intro cells4 vcells12 S5 H6 s7 w8 p9 g11 rcells13 hm10
    have r_script := Mo.mo g11.s r_script
    refine x_ev w8 p9 (e_add e_cI (e_mul e_cI (c_lenX (e_var rfl r_script)))) hm10 ?_
    intro mixed14 vmixed22 S15 H16 s17 w18 p19 g21 rmixed23 hm20
    cases (show vmixed22 = .int mixed14 from rmixed23)
    have r_script := Mo.mo g21.s r_script
    have rcells13 := Mo.mo g21.s rcells13
    refine par_end [some v_script, none, some vcells12, some (.int mixed14)] rfl ?_
    refine q_for (p := pt0) w18 p19 (i_L (K := K) (e_var rfl rcells13)) (g_nm (R := rI)) hm20 (fun Sb25 st24 σ S' H' s' => Ex Sb25 S' ∧ (∃ (xcell_ : Option V), σ = [some v_script, xcell_, some vcells12, some (.int st24)] ∧ Wd pt0 S0 H0 S' H' [] ∧ PotAt pt0 s' S' H' ∧ Ex S15 S')) ?_ ?_ ?_ ?_ ?_
    · intro S27 H28 s29 w30 p31 g32
      have r_script := Mo.mo g32.s r_script
      have rcells13 := Mo.mo g32.s rcells13
      exact ⟨Ex.rf, ⟨_, rfl, w30, p31, g32.s⟩⟩
    · rintro Sb25 st24 _ S37 H38 s39 ⟨ex40, ⟨xcell33, rfl, w34, p35, eb36⟩⟩
      exact ⟨ex40, w34.i, p35, ownOk0⟩
    · rintro Sb25 st24 _ S45 H46 s47 S48 H49 ⟨ex51, ⟨xcell41, rfl, w42, p43, eb44⟩⟩ g50
      exact ⟨ex51.tr g50.s, _, rfl, w42.go (Gm.up g50), PotAt.go p43 g50, eb44.tr g50.s⟩
    · rintro Sb25 x26 st24 _ σ64 S56 H57 s58 st24_ s2_ D_ ⟨ex63, ⟨xcell52, rfl, w53, p54, eb55⟩⟩ hp hm59 nx60
      obtain ⟨_, rfl, rfl⟩ := hp
      have r_script := Mo.mo eb55 r_script
      have rcells13 := Mo.mo eb55 rcells13
      refine q_set (fun v => [some v_script, some (.int x26), some vcells12, some v]) (fun _ => rfl) w53 p54 (e_mod (e_add (e_add (e_mul (e_var (R := rI) rfl rfl) e_cI) (e_var (R := rI) rfl rfl)) e_cI) e_cI) hm59 ?_
      intro mixed65 vmixed73 S66 H67 s68 w69 p70 g72 rmixed74 hm71
      cases (show vmixed73 = .int mixed65 from rmixed74)
      have r_script := Mo.mo g72.s r_script
      have rcells13 := Mo.mo g72.s rcells13
      have eb55 := eb55.tr g72.s
      have ex63 := ex63.tr g72.s
      cases run_of_pure hm71
      exact (nx60 _ _ _ ⟨ex63, ⟨_, rfl, w69, p70, eb55⟩⟩).1
    · rintro Sb25 st24 _ S79 H80 s81 ⟨_, ⟨xcell75, rfl, w76, p77, eb78⟩⟩ hm82
      have r_script := Mo.mo eb78 r_script
      have rcells13 := Mo.mo eb78 rcells13
      refine q_retP w76 (pot_lst (l_lc (γ := Int) (vs := [1]) (mt := fun x83 k => Mir.lft (grd (Pw (10 : Int) (12 : Int))) >>= fun _ => k (decide (((10 : Int) ^ Int.toNat (12 : Int)) < x83))) (me := fun x83 k => k x83) (R' := rI) (i_L (K := K) (e_var rfl rcells13)) ownOk0 (g_nm (R := rI)) (fun x σ' S hp => by obtain ⟨_, rfl, _⟩ := hp; rfl) (fun x83 σ' S1 H1 g84 hp => by have w85 := w76.go g84; obtain ⟨_, rfl, rfl⟩ := hp; have r_script := Mo.mo g84.s r_script; have rcells13 := Mo.mo g84.s rcells13; exact (t_Test (e_gt (e_var (R := rI) rfl rfl) (e_pow e_cI e_cI)))) (fun x83 σ' S1 H1 g84 hp => by have w85 := w76.go g84; obtain ⟨_, rfl, rfl⟩ := hp; have r_script := Mo.mo g84.s r_script; have rcells13 := Mo.mo g84.s rcells13; exact (e_var (R := rI) rfl rfl)) pm_nm) (e_var (R := rI) rfl rfl)) hm82 ?_
      intro r93 i94 S86 H87 g88 p89 n90 n91 hm92
      cases run_of_pure hm92
      exact fin0 i94 S86 H87 g88 p89 n90 n91
end
abbrev t_law : Stmt := top 60
theorem sc_law : FnScope ["script", "pot", "known", "turn", "number", "parting", "total", "kind", "often", "told", "named", "parts", "divisors", "rich", "due", "share", "excess", "above", "below", "a", "b", "exponent", "paper", "reach", "d", "p", "k"] ["script"] (defScope t_law) := ⟨rfl, rfl, rfl, by decide +kernel, rfl, by decide +kernel, by decide +kernel⟩
@[irreducible] noncomputable def m_law : PM PotT Bool :=
Mir.lft (grd (List.length ([(6 : Int), (28 : Int), (496 : Int), (8128 : Int), (33550336 : Int), (120 : Int), (672 : Int), (523776 : Int), (30240 : Int), (32760 : Int)] : List Int) ≤ 16000000)) >>= fun _ => bnd ([(6 : Int), (28 : Int), (496 : Int), (8128 : Int), (33550336 : Int), (120 : Int), (672 : Int), (523776 : Int), (30240 : Int), (32760 : Int)] : List Int) fun known1 =>
Mir.lft (grd (RgB (3 : Int))) >>= fun _ => (lpC (ρ := Bool) (rng 0 (3 : Int)) (fun (x13 : Int) (st11 : Unit) =>
m__law_small >>= fun r828 => bnd r828 fun t118 =>
m__law_one known1 >>= fun r827 => Mir.lft (grd (List.length ([t118.1, t118.1, t118.1, r827] : List Int) ≤ 16000000)) >>= fun _ => m__law_one ([t118.1, t118.1, t118.1, r827] : List Int) >>= fun r826 => bnd r826 fun number129 =>
Mir.lft (m__law_primes number129) >>= fun r825 => bnd r825 fun parting139 =>
Mir.lft (m__law_sum parting139 (1 : Int)) >>= fun r824 => bnd r824 fun total149 =>
Mir.lft (m__law_made total149 number129) >>= fun r823 => bnd r823 fun share159 =>
Mir.lft (grd (Sm (2 : Int) ∧ Sm number129)) >>= fun _ => bnd (total149 - ((2 : Int) * number129)) fun excess169 =>
bnd (if (decide ((0 : Int) < excess169)) = true then ("rich" : Str) else (if (decide (excess169 < (0 : Int))) = true then ("poor" : Str) else ("whole" : Str))) fun kind179 =>
bnd (if (decide ((share159.2) = (1 : Int))) = true then (some (share159.1)) else none) fun often189 =>
Mir.lft (m_kind_of number129) >>= fun r818 => Mir.lft (m_excess_of number129) >>= fun r819 => Mir.lft (m_share_of number129) >>= fun r820 => Mir.lft (m_often_as_much number129) >>= fun r821 => Mir.lft (m_is_perfect number129) >>= fun r822 => bnd (r818, r819, r820, r821, r822) fun told199 =>
Mir.lft (m_kind_of number129) >>= fun r815 => Mir.lft (m_excess_of number129) >>= fun r816 => Mir.lft (m_share_of number129) >>= fun r817 => bnd (r815, r816, r817) fun named209 =>
Mir.lft (m_often_as_much number129) >>= fun r813 => Mir.lft (m_is_perfect number129) >>= fun r814 => bnd (named209.1, named209.2.1, named209.2.2, (r813, r814).1, (r813, r814).2) fun named219 =>
Mir.lft (grd (List.length ([told199, named219] : List (Str × Int × (Int × Int) × (Option Int) × Bool)) ≤ 16000000)) >>= fun _ => bnd (PyData.list (List.map (fun a => (PyData.list [(PyData.str a.1), (PyData.int a.2.1), (PyData.tuple [(PyData.int a.2.2.1.1), (PyData.int a.2.2.1.2)]), (dO PyData.int a.2.2.2.1), (PyData.bool a.2.2.2.2)])) ([told199, named219] : List (Str × Int × (Int × Int) × (Option Int) × Bool)))) fun d811 => Mir.lft (grd (OkD d811)) >>= fun _ => Mir.lft (grd (List.length ([(kind179, excess169, share159, often189, (decide (excess169 = (0 : Int))))] : List (Str × Int × (Int × Int) × (Option Int) × Bool)) ≤ 16000000)) >>= fun _ => Mir.lft (grd (RpB (List.length ([(kind179, excess169, share159, often189, (decide (excess169 = (0 : Int))))] : List (Str × Int × (Int × Int) × (Option Int) × Bool))) (2 : Int))) >>= fun _ => bnd (PyData.list (List.map (fun a => (PyData.list [(PyData.str a.1), (PyData.int a.2.1), (PyData.tuple [(PyData.int a.2.2.1.1), (PyData.int a.2.2.1.2)]), (dO PyData.int a.2.2.2.1), (PyData.bool a.2.2.2.2)])) (List.replicate (Int.toNat (2 : Int)) ([(kind179, excess169, share159, often189, (decide (excess169 = (0 : Int))))] : List (Str × Int × (Int × Int) × (Option Int) × Bool))).flatten)) fun d812 => Mir.lft (grd (OkD d812)) >>= fun _ => Mir.lft (grP (d811 = d812)) >>= fun _ => if false = true then
(bnd false fun r243 => pure (Ctl.ret r243))
else
(Mir.lft (m_divisor_sum number129 (1 : Int)) >>= fun r810 => if (!decide (r810 = total149)) = true then
(bnd false fun r267 => pure (Ctl.ret r267))
else
(Mir.lft (m_prime_shares number129) >>= fun r809 => bnd r809 fun parts277 =>
bnd (1 : Int) fun above287 =>
bnd (1 : Int) fun below297 =>
(lpS parts277 (fun (x314 : (Int × Int)) (st312 : Int × Int) =>
Mir.lft (grd (Sm st312.1 ∧ Sm x314.1)) >>= fun _ => bnd (st312.1 * x314.1) fun above356 =>
Mir.lft (grd (Sm st312.2 ∧ Sm x314.2)) >>= fun _ => bnd (st312.2 * x314.2) fun below366 =>
pure (above356, below366)) (above287, below297)) >>= fun (st312 : Int × Int) =>
(if (!decide ((List.length parts277 : Int) = (List.length parting139 : Int))) = true then pure true else Mir.lft (m__law_made st312.1 st312.2) >>= fun r808 => pure (!decide (r808 = share159))) >>= fun b807 => if b807 = true then
(bnd false fun r399 => pure (Ctl.ret r399))
else
(Mir.lft (m_is_seen_alone number129) >>= fun r804 => bnd (PyData.bool r804) fun d803 => Mir.lft (grd (OkD d803)) >>= fun _ => Mir.lft (m__law_common number129 total149) >>= fun r806 => bnd (PyData.bool (decide (r806 = (1 : Int)))) fun d805 => Mir.lft (grd (OkD d805)) >>= fun _ => Mir.lft (grP (d803 = d805)) >>= fun _ => if false = true then
(bnd false fun r423 => pure (Ctl.ret r423))
else
(Mir.lft (m__law_divisors parting139) >>= fun r802 => bnd r802 fun divisors433 =>
Mir.lft (grd (List.length divisors433 ≤ 16000000)) >>= fun _ => cmp divisors433 (fun x443 => Mir.lft (m__law_primes x443) >>= fun r447 => Mir.lft (m__law_sum r447 (1 : Int)) >>= fun r446 => Mir.lft (grd (Sm (2 : Int) ∧ Sm x443)) >>= fun _ => if (decide (((2 : Int) * x443) ≤ r446)) = true then pure (some x443) else pure none) >>= fun l801 => bnd l801 fun rich450 =>
Mir.lft (grd (List.length ([] : List Int) ≤ 16000000)) >>= fun _ => (if (!decide (rich450 = ([] : List Int))) = true then Mir.lft (L2.atI rich450 (0 : Int)) >>= fun y800 => pure (some y800) else pure none) >>= fun c799 => bnd c799 fun due460 =>
Mir.lft (m_first_divisor number129) >>= fun r796 => Mir.lft (m_first_divisor number129) >>= fun r797 => Mir.lft (grd (List.length ([r796, r797] : List (Option Int)) ≤ 16000000)) >>= fun _ => bnd (PyData.list (List.map (fun a => (dO PyData.int a)) ([r796, r797] : List (Option Int)))) fun d795 => Mir.lft (grd (OkD d795)) >>= fun _ => Mir.lft (grd (List.length ([due460, due460] : List (Option Int)) ≤ 16000000)) >>= fun _ => bnd (PyData.list (List.map (fun a => (dO PyData.int a)) ([due460, due460] : List (Option Int)))) fun d798 => Mir.lft (grd (OkD d798)) >>= fun _ => Mir.lft (grP (d795 = d798)) >>= fun _ => if false = true then
(bnd false fun r484 => pure (Ctl.ret r484))
else
(Mir.lft (m_is_first_one number129) >>= fun r793 => bnd (PyData.bool r793) fun d792 => Mir.lft (grd (OkD d792)) >>= fun _ => Mir.lft (grd (List.length ([number129] : List Int) ≤ 16000000)) >>= fun _ => bnd (PyData.bool (decide (rich450 = ([number129] : List Int)))) fun d794 => Mir.lft (grd (OkD d794)) >>= fun _ => Mir.lft (grP (d792 = d794)) >>= fun _ => if false = true then
(bnd false fun r508 => pure (Ctl.ret r508))
else
(Mir.lft (m_perfect_exponent number129) >>= fun r791 => bnd r791 fun exponent518 =>
Mir.lft (m_perfect_paper number129) >>= fun r790 => bnd r790 fun paper528 =>
if ((!decide ((!Option.isNone exponent518) = (decide (excess169 = (0 : Int))))) || (!decide ((decide ((paper528.1) = ("even" : Str))) = (decide (excess169 = (0 : Int)))))) = true then
(bnd false fun r552 => pure (Ctl.ret r552))
else
(Mir.lft (m_perfect_paper_error number129 paper528) >>= fun r789 => if (!Option.isNone r789) = true then
(bnd false fun r576 => pure (Ctl.ret r576))
else
((if (!Option.isNone exponent518) = true then Mir.lft exponent518 >>= fun u788 => Mir.lft (m_even_perfect u788) >>= fun r787 => pure (!decide (r787 = number129)) else pure false) >>= fun b786 => if b786 = true then
(bnd false fun r600 => pure (Ctl.ret r600))
else
(Mir.lft (grd (0 < (2 : Int))) >>= fun _ => if (decide ((number129 % (2 : Int)) = (1 : Int))) = true then
(bnd (1 : Int) fun above617 =>
bnd (1 : Int) fun below627 =>
(lpS parting139 (fun (x644 : (Int × Int)) (st642 : Int × Int) =>
Mir.lft (grd (Sm st642.1 ∧ Sm x644.1)) >>= fun _ => bnd (st642.1 * x644.1) fun above686 =>
Mir.lft (grd (Sm st642.2 ∧ Sm (x644.1 - (1 : Int)))) >>= fun _ => bnd (st642.2 * (x644.1 - (1 : Int))) fun below696 =>
pure (above686, below696)) (above617, below627)) >>= fun (st642 : Int × Int) =>
Mir.lft (m__law_made st642.1 st642.2) >>= fun r778 => bnd r778 fun reach715 =>
Mir.lft (m_reach_of number129) >>= fun r775 => (if (!decide (r775 = reach715)) = true then pure true else Mir.lft (m_odd_bar number129) >>= fun r777 => (if (Option.isNone r777) = true then Mir.lft (grd (Sm (2 : Int) ∧ Sm (reach715.2))) >>= fun _ => pure (decide ((reach715.1) ≤ ((2 : Int) * (reach715.2)))) else pure false) >>= fun b776 => pure b776) >>= fun b774 => if b774 = true then
(bnd false fun r739 => pure (Ctl.ret r739))
else
((if (decide ((2 : Int) < number129)) = true then Mir.lft (grd (Sm total149 ∧ Sm (reach715.2))) >>= fun _ => Mir.lft (grd (Sm number129 ∧ Sm (reach715.1))) >>= fun _ => pure (decide ((number129 * (reach715.1)) ≤ (total149 * (reach715.2)))) else pure false) >>= fun b773 => if b773 = true then
(bnd false fun r763 => pure (Ctl.ret r763))
else
(pure (Ctl.go ()))))
else
(pure (Ctl.go ())))))))))))) ()) >>= fun o => aft o (fun (st11 : Unit) =>
m__law_are_known_right >>= fun r869 => bnd r869 fun r866 => pure r866) (fun r870 => pure r870)
def okLaw (a : List Int) : Prop := ∃ s s1, m__law_pot a = some s ∧ Mir.run m_law s = some (true, s1)
section
variable {P : Program} {w : World} {K : PySem.W.Frag} {mg : Str → Option Value} {base : Heap}
theorem g_law (T : Tx mg base) (D0 : Dk P w K mg base "_law_pot" "_law_pot" t__law_pot 1 ["script"] (sp__law_pot K)) (D1 : Dk P w K mg base "_law_small" "_law_small" t__law_small 3 ["pot"] (sp__law_small K)) (D2 : Dk P w K mg base "_law_one" "_law_one" t__law_one 2 ["pot", "items"] (sp__law_one K)) (D3 : Dk P w K mg base "_law_primes" "_law_primes" t__law_primes 1 ["number"] (sp__law_primes K)) (D4 : Dk P w K mg base "_law_sum" "_law_sum" t__law_sum 2 ["parting", "k"] (sp__law_sum K)) (D5 : Dk P w K mg base "_law_made" "_law_made" t__law_made 2 ["above", "below"] (sp__law_made K)) (D6 : Dk P w K mg base "kind_of" "kind_of" t_kind_of 7 ["number"] (sp_kind_of K)) (D7 : Dk P w K mg base "excess_of" "excess_of" t_excess_of 6 ["number"] (sp_excess_of K)) (D8 : Dk P w K mg base "share_of" "share_of" t_share_of 6 ["number"] (sp_share_of K)) (D9 : Dk P w K mg base "often_as_much" "often_as_much" t_often_as_much 7 ["number"] (sp_often_as_much K)) (D10 : Dk P w K mg base "is_perfect" "is_perfect" t_is_perfect 6 ["number"] (sp_is_perfect K)) (D11 : Dk P w K mg base "divisor_sum" "divisor_sum" t_divisor_sum 5 ["number", "k"] (sp_divisor_sum K)) (D12 : Dk P w K mg base "prime_shares" "prime_shares" t_prime_shares 5 ["number"] (sp_prime_shares K)) (D13 : Dk P w K mg base "is_seen_alone" "is_seen_alone" t_is_seen_alone 6 ["number"] (sp_is_seen_alone K)) (D14 : Dk P w K mg base "_law_common" "_law_common" t__law_common 1 ["a", "b"] (sp__law_common K)) (D15 : Dk P w K mg base "_law_divisors" "_law_divisors" t__law_divisors 2 ["parting"] (sp__law_divisors K)) (D16 : Dk P w K mg base "first_divisor" "first_divisor" t_first_divisor 6 ["number"] (sp_first_divisor K)) (D17 : Dk P w K mg base "is_first_one" "is_first_one" t_is_first_one 7 ["number"] (sp_is_first_one K)) (D18 : Dk P w K mg base "perfect_exponent" "perfect_exponent" t_perfect_exponent 5 ["value"] (sp_perfect_exponent K)) (D19 : Dk P w K mg base "perfect_paper" "perfect_paper" t_perfect_paper 6 ["number"] (sp_perfect_paper K)) (D20 : Dk P w K mg base "perfect_paper_error" "perfect_paper_error" t_perfect_paper_error 6 ["number", "value"] (sp_perfect_paper_error K)) (D21 : Dk P w K mg base "even_perfect" "even_perfect" t_even_perfect 5 ["p"] (sp_even_perfect K)) (D22 : Dk P w K mg base "reach_of" "reach_of" t_reach_of 5 ["number"] (sp_reach_of K)) (D23 : Dk P w K mg base "odd_bar" "odd_bar" t_odd_bar 6 ["number"] (sp_odd_bar K)) (D24 : Dk P w K mg base "_law_are_known_right" "_law_are_known_right" t__law_are_known_right 8 ["pot"] (sp__law_are_known_right K)) {f : Addr} {fd : FuncData} (F : Fun K "law" "law" t_law f fd) : FnG P w K mg base CX0 9 f fd ["script"] (spLaw K okLaw) := by
  obtain ⟨f0, fd0, F0, m0, G0, b0⟩ := D0
  obtain ⟨f1, fd1, F1, m1, G1, b1⟩ := D1
  obtain ⟨f2, fd2, F2, m2, G2, b2⟩ := D2
  obtain ⟨f3, fd3, F3, m3, G3, b3⟩ := D3
  obtain ⟨f4, fd4, F4, m4, G4, b4⟩ := D4
  obtain ⟨f5, fd5, F5, m5, G5, b5⟩ := D5
  obtain ⟨f6, fd6, F6, m6, G6, b6⟩ := D6
  obtain ⟨f7, fd7, F7, m7, G7, b7⟩ := D7
  obtain ⟨f8, fd8, F8, m8, G8, b8⟩ := D8
  obtain ⟨f9, fd9, F9, m9, G9, b9⟩ := D9
  obtain ⟨f10, fd10, F10, m10, G10, b10⟩ := D10
  obtain ⟨f11, fd11, F11, m11, G11, b11⟩ := D11
  obtain ⟨f12, fd12, F12, m12, G12, b12⟩ := D12
  obtain ⟨f13, fd13, F13, m13, G13, b13⟩ := D13
  obtain ⟨f14, fd14, F14, m14, G14, b14⟩ := D14
  obtain ⟨f15, fd15, F15, m15, G15, b15⟩ := D15
  obtain ⟨f16, fd16, F16, m16, G16, b16⟩ := D16
  obtain ⟨f17, fd17, F17, m17, G17, b17⟩ := D17
  obtain ⟨f18, fd18, F18, m18, G18, b18⟩ := D18
  obtain ⟨f19, fd19, F19, m19, G19, b19⟩ := D19
  obtain ⟨f20, fd20, F20, m20, G20, b20⟩ := D20
  obtain ⟨f21, fd21, F21, m21, G21, b21⟩ := D21
  obtain ⟨f22, fd22, F22, m22, G22, b22⟩ := D22
  obtain ⟨f23, fd23, F23, m23, G23, b23⟩ := D23
  obtain ⟨f24, fd24, F24, m24, G24, b24⟩ := D24
  refine okG0 F sc_law (fun vs H Q E h => ?_) (fun cdv A outer s0_ H vs Q E hr gd h => ?_)
  · obtain ⟨_, ⟨_, rfl, _⟩, _⟩ := h
    rfl
  · obtain ⟨p_script, ⟨v_script, rfl, r_script⟩, ⟨sP, s', hf, hm1⟩, fin0⟩ := h
    obtain ⟨r, hrt, hm0⟩ : ∃ r, r = true ∧ Mir.run m_law sP = some (r, s') := ⟨true, rfl, hm1⟩
    clear hm1
    unfold m_law at hm0
    have sc := sc_law
    refine ⟨_, pss_cons (ps_set (i := 1) sc.nd rfl (by first | exact Or.inl rfl | exact Or.inr rfl) (pe_cG G0 (hr.mono (by decide)) gd rfl m0 F0.kp b0 pass0 (pa_cons (pv 0) pa_nil))) (pss_cons (ps_set (i := 2) sc.nd rfl (by first | exact Or.inl rfl | exact Or.inr rfl) (pe_lst (pa_cons (pe_int) (pa_cons (pe_int) (pa_cons (pe_int) (pa_cons (pe_int) (pa_cons (pe_int) (pa_cons (pe_int) (pa_cons (pe_int) (pa_cons (pe_int) (pa_cons (pe_int) (pa_cons (pe_int) (pa_nil))))))))))))) (pss_cons (ps_for PassesOwn.never rfl (pi_range1 rfl T.n_range (pa_cons (pe_int) pa_nil)) (pg_name (i := 3) sc.nd rfl (by first | exact Or.inl rfl | exact Or.inr rfl)) (pss_cons (ps_asg (pe_cG G1 (hr.mono (by decide)) gd rfl m1 F1.kp b1 pass0 (pa_cons (pv 1) (pa_nil))) (k_gt K (pgs_cons (pg_name (i := 4) sc.nd rfl (by first | exact Or.inl rfl | exact Or.inr rfl)) (pgs_cons (pg_name (i := 5) sc.nd rfl (by first | exact Or.inl rfl | exact Or.inr rfl)) (pgs_nil))))) (pss_cons (ps_set (i := 4) sc.nd rfl (by first | exact Or.inl rfl | exact Or.inr rfl) (pe_cG G2 (hr.mono (by decide)) gd rfl m2 F2.kp b2 pass0 (pa_cons (pv 1) (pa_cons (pe_lst (pa_cons (pv 4) (pa_cons (pv 4) (pa_cons (pv 4) (pa_cons (pe_cG G2 (hr.mono (by decide)) gd rfl m2 F2.kp b2 pass0 (pa_cons (pv 1) (pa_cons (pv 2) (pa_nil)))) (pa_nil)))))) (pa_nil))))) (pss_cons (ps_set (i := 5) sc.nd rfl (by first | exact Or.inl rfl | exact Or.inr rfl) (pe_cG G3 (hr.mono (by decide)) gd rfl m3 F3.kp b3 pass0 (pa_cons (pv 4) (pa_nil)))) (pss_cons (ps_set (i := 6) sc.nd rfl (by first | exact Or.inl rfl | exact Or.inr rfl) (pe_cG G4 (hr.mono (by decide)) gd rfl m4 F4.kp b4 pass0 (pa_cons (pv 5) (pa_cons (pe_int) (pa_nil))))) (pss_cons (ps_par (i := 15) (j := 16) rfl sc.nd rfl rfl (by decide) rfl rfl (pa_cons (pe_cG G5 (hr.mono (by decide)) gd rfl m5 F5.kp b5 pass0 (pa_cons (pv 6) (pa_cons (pv 4) (pa_nil)))) (pa_cons (pe_op op_sub (pv 6) (pe_op op_mulX (pe_int) (pv 4))) (pa_nil))) (by rfl)) (pss_cons (ps_set (i := 7) sc.nd rfl (by first | exact Or.inl rfl | exact Or.inr rfl) (pe_ifExp (pt_cmpR op_gt (pv 16) (pe_int) (nomark _)) (pe_str) (pe_ifExp (pt_cmpR op_lt (pv 16) (pe_int) (nomark _)) (pe_str) (pe_str)))) (pss_cons (ps_set (i := 8) sc.nd rfl (by first | exact Or.inl rfl | exact Or.inr rfl) (pe_ifExp (pt_cmpR op_eq (pe_ix (k_ixT K) (pv 15) (pe_int) (fun _ _ => rfl)) (pe_int) (nomark _)) (pe_ix (k_ixT K) (pv 15) (pe_int) (fun _ _ => rfl)) (pe_non))) (pss_cons (ps_set (i := 9) sc.nd rfl (by first | exact Or.inl rfl | exact Or.inr rfl) (pe_lst (pa_cons (pe_cG G6 (hr.mono (by decide)) gd rfl m6 F6.kp b6 pass0 (pa_cons (pv 4) (pa_nil))) (pa_cons (pe_cG G7 (hr.mono (by decide)) gd rfl m7 F7.kp b7 pass0 (pa_cons (pv 4) (pa_nil))) (pa_cons (pe_cG G8 (hr.mono (by decide)) gd rfl m8 F8.kp b8 pass0 (pa_cons (pv 4) (pa_nil))) (pa_cons (pe_cG G9 (hr.mono (by decide)) gd rfl m9 F9.kp b9 pass0 (pa_cons (pv 4) (pa_nil))) (pa_cons (pe_cG G10 (hr.mono (by decide)) gd rfl m10 F10.kp b10 pass0 (pa_cons (pv 4) (pa_nil))) (pa_nil)))))))) (pss_cons (ps_set (i := 10) sc.nd rfl (by first | exact Or.inl rfl | exact Or.inr rfl) (pe_lst (pa_cons (pe_cGK0 (ks := ["number"]) (ix := [0]) G6 (hr.mono (by decide)) gd rfl m6 F6.kp (Fun.kb F6 (ps := ["number"]) (ks := ["number"]) (n := 0) (ix := [0]) fun _ _ _ _ _ _ us ws h1 h2 => match us, ws, h1, h2 with | [], [_], _, _ => rfl) pass0 (pk_cons (pv 4) (pk_nil))) (pa_cons (pe_cGK0 (ks := ["number"]) (ix := [0]) G7 (hr.mono (by decide)) gd rfl m7 F7.kp (Fun.kb F7 (ps := ["number"]) (ks := ["number"]) (n := 0) (ix := [0]) fun _ _ _ _ _ _ us ws h1 h2 => match us, ws, h1, h2 with | [], [_], _, _ => rfl) pass0 (pk_cons (pv 4) (pk_nil))) (pa_cons (pe_cGK0 (ks := ["number"]) (ix := [0]) G8 (hr.mono (by decide)) gd rfl m8 F8.kp (Fun.kb F8 (ps := ["number"]) (ks := ["number"]) (n := 0) (ix := [0]) fun _ _ _ _ _ _ us ws h1 h2 => match us, ws, h1, h2 with | [], [_], _, _ => rfl) pass0 (pk_cons (pv 4) (pk_nil))) (pa_nil)))))) (pss_cons (ps_set (i := 10) sc.nd rfl (by first | exact Or.inl rfl | exact Or.inr rfl) (pe_op op_cat (pv 10) (pe_lst (pa_cons (pe_cGK0 (ks := ["number"]) (ix := [0]) G9 (hr.mono (by decide)) gd rfl m9 F9.kp (Fun.kb F9 (ps := ["number"]) (ks := ["number"]) (n := 0) (ix := [0]) fun _ _ _ _ _ _ us ws h1 h2 => match us, ws, h1, h2 with | [], [_], _, _ => rfl) pass0 (pk_cons (pv 4) (pk_nil))) (pa_cons (pe_cGK0 (ks := ["number"]) (ix := [0]) G10 (hr.mono (by decide)) gd rfl m10 F10.kp (Fun.kb F10 (ps := ["number"]) (ks := ["number"]) (n := 0) (ix := [0]) fun _ _ _ _ _ _ us ws h1 h2 => match us, ws, h1, h2 with | [], [_], _, _ => rfl) pass0 (pk_cons (pv 4) (pk_nil))) (pa_nil)))))) (pss_cons (ps_if (pt_cmpR op_ne (pe_callB (k_repr K hr gd T.nd) (by rfl) T.n_repr (by decide +kernel) (pa_cons (pe_lst (pa_cons (pv 9) (pa_cons (pv 10) (pa_nil)))) pa_nil)) (pe_callB (k_repr K hr gd T.nd) (by rfl) T.n_repr (by decide +kernel) (pa_cons (pe_op op_rep (pe_lst (pa_cons (pe_lst (pa_cons (pv 7) (pa_cons (pv 16) (pa_cons (pv 15) (pa_cons (pv 8) (pa_cons (pe_cmpR op_eq (pv 16) (pe_int) (nomark _)) (pa_nil))))))) (pa_nil))) (pe_int)) pa_nil)) (nomark _)) (pss_cons (ps_ret (pe_bl)) (pss_nil)) (pss_nil)) (pss_cons (ps_if (pt_cmpR op_ne (pe_cG G11 (hr.mono (by decide)) gd rfl m11 F11.kp b11 pass0 (pa_cons (pv 4) (pa_cons (pe_int) (pa_nil)))) (pv 6) (nomark _)) (pss_cons (ps_ret (pe_bl)) (pss_nil)) (pss_nil)) (pss_cons (ps_set (i := 11) sc.nd rfl (by first | exact Or.inl rfl | exact Or.inr rfl) (pe_cG G12 (hr.mono (by decide)) gd rfl m12 F12.kp b12 pass0 (pa_cons (pv 4) (pa_nil)))) (pss_cons (ps_asg (pe_tup (pa_cons (pe_int) (pa_cons (pe_int) (pa_nil)))) (k_gt K (pgs_cons (pg_name (i := 17) sc.nd rfl (by first | exact Or.inl rfl | exact Or.inr rfl)) (pgs_cons (pg_name (i := 18) sc.nd rfl (by first | exact Or.inl rfl | exact Or.inr rfl)) (pgs_nil))))) (pss_cons (ps_for PassesOwn.never rfl (k_pit K (pv 11)) (k_gt K (pgs_cons (pg_name (i := 19) sc.nd rfl (by first | exact Or.inl rfl | exact Or.inr rfl)) (pgs_cons (pg_name (i := 20) sc.nd rfl (by first | exact Or.inl rfl | exact Or.inr rfl)) (pgs_nil)))) (pss_cons (ps_par (i := 17) (j := 18) rfl sc.nd rfl rfl (by decide) rfl rfl (pa_cons (pe_op op_mulX (pv 17) (pv 19)) (pa_cons (pe_op op_mulX (pv 18) (pv 20)) (pa_nil))) (by rfl)) (pss_nil))) (pss_cons (ps_if (PW.pt (pw_or (pt_cmpR op_ne (pe_callB (k_len K) (by rfl) T.n_len (by decide +kernel) (pa_cons (pv 11) pa_nil)) (pe_callB (k_len K) (by rfl) T.n_len (by decide +kernel) (pa_cons (pv 5) pa_nil)) (nomark _)) (pw_or1 (pt_cmpR (k_neD K hr) (pe_cG G5 (hr.mono (by decide)) gd rfl m5 F5.kp b5 pass0 (pa_cons (pv 17) (pa_cons (pv 18) (pa_nil)))) (pv 15) (nomark _))))) (pss_cons (ps_ret (pe_bl)) (pss_nil)) (pss_nil)) (pss_cons (ps_if (pt_cmpR op_ne (pe_callB (k_repr K hr gd T.nd) (by rfl) T.n_repr (by decide +kernel) (pa_cons (pe_cG G13 (hr.mono (by decide)) gd rfl m13 F13.kp b13 pass0 (pa_cons (pv 4) (pa_nil))) pa_nil)) (pe_callB (k_repr K hr gd T.nd) (by rfl) T.n_repr (by decide +kernel) (pa_cons (pe_cmpR op_eq (pe_cG G14 (hr.mono (by decide)) gd rfl m14 F14.kp b14 pass0 (pa_cons (pv 4) (pa_cons (pv 6) (pa_nil)))) (pe_int) (nomark _)) pa_nil)) (nomark _)) (pss_cons (ps_ret (pe_bl)) (pss_nil)) (pss_nil)) (pss_cons (ps_set (i := 12) sc.nd rfl (by first | exact Or.inl rfl | exact Or.inr rfl) (pe_cG G15 (hr.mono (by decide)) gd rfl m15 F15.kp b15 pass0 (pa_cons (pv 5) (pa_nil)))) (pss_cons (ps_setLc (i := 13) (own := [("d", 24)]) (g := (gName 24)) rfl sc.nd rfl rfl (sw_true rfl rfl rfl (by decide +kernel)) (k_pil K (pv 12)) (blkOk_by (N := ["script", "pot", "known", "turn", "number", "parting", "total", "kind", "often", "told", "named", "parts", "divisors", "rich", "due", "share", "excess", "above", "below", "a", "b", "exponent", "paper", "reach", "d", "p", "k"]) (sc := defScope t_law) (by decide +kernel)) (fun _ _ _ _ _ => pg_name (i := 24) sc.nd rfl (by first | exact Or.inl rfl | exact Or.inr rfl)) (fun _ _ _ _ _ => pts_one (pt_cmpR op_ge (pe_cG G4 (hr.mono (by decide)) gd rfl m4 F4.kp b4 pass0 (pa_cons (pe_cG G3 (hr.mono (by decide)) gd rfl m3 F3.kp b3 pass0 (pa_cons (pv 24) (pa_nil))) (pa_cons (pe_int) (pa_nil)))) (pe_op op_mulX (pe_int) (pv 24)) (nomark _))) (fun _ _ _ _ _ => pv 24)) (pss_cons (ps_set (i := 14) sc.nd rfl (by first | exact Or.inl rfl | exact Or.inr rfl) (pe_ifExp (pt_cmpR (k_neD K hr) (pv 13) (pe_lst (pa_nil)) (nomark _)) (pe_ix (k_ixL K) (pv 13) (pe_int) (fun _ _ => rfl)) (pe_non))) (pss_cons (ps_if (pt_cmpR op_ne (pe_callB (k_repr K hr gd T.nd) (by rfl) T.n_repr (by decide +kernel) (pa_cons (pe_lst (pa_cons (pe_cG G16 (hr.mono (by decide)) gd rfl m16 F16.kp b16 pass0 (pa_cons (pv 4) (pa_nil))) (pa_cons (pe_cGK0 (ks := ["number"]) (ix := [0]) G16 (hr.mono (by decide)) gd rfl m16 F16.kp (Fun.kb F16 (ps := ["number"]) (ks := ["number"]) (n := 0) (ix := [0]) fun _ _ _ _ _ _ us ws h1 h2 => match us, ws, h1, h2 with | [], [_], _, _ => rfl) pass0 (pk_cons (pv 4) (pk_nil))) (pa_nil)))) pa_nil)) (pe_callB (k_repr K hr gd T.nd) (by rfl) T.n_repr (by decide +kernel) (pa_cons (pe_lst (pa_cons (pv 14) (pa_cons (pv 14) (pa_nil)))) pa_nil)) (nomark _)) (pss_cons (ps_ret (pe_bl)) (pss_nil)) (pss_nil)) (pss_cons (ps_if (pt_cmpR op_ne (pe_callB (k_repr K hr gd T.nd) (by rfl) T.n_repr (by decide +kernel) (pa_cons (pe_cG G17 (hr.mono (by decide)) gd rfl m17 F17.kp b17 pass0 (pa_cons (pv 4) (pa_nil))) pa_nil)) (pe_callB (k_repr K hr gd T.nd) (by rfl) T.n_repr (by decide +kernel) (pa_cons (pe_cmpR (k_eqD K hr) (pv 13) (pe_lst (pa_cons (pv 4) (pa_nil))) (nomark _)) pa_nil)) (nomark _)) (pss_cons (ps_ret (pe_bl)) (pss_nil)) (pss_nil)) (pss_cons (ps_par (i := 21) (j := 22) rfl sc.nd rfl rfl (by decide) rfl rfl (pa_cons (pe_cG G18 (hr.mono (by decide)) gd rfl m18 F18.kp b18 pass0 (pa_cons (pv 4) (pa_nil))) (pa_cons (pe_cG G19 (hr.mono (by decide)) gd rfl m19 F19.kp b19 pass0 (pa_cons (pv 4) (pa_nil))) (pa_nil))) (by rfl)) (pss_cons (ps_if (PW.pt (pw_or (pt_cmpR op_ne (pe_cmpR op_notN (pv 21) (pe_non) (nomark _)) (pe_cmpR op_eq (pv 16) (pe_int) (nomark _)) (nomark _)) (pw_or1 (pt_cmpR op_ne (pe_cmpR op_eq (pe_ix (k_ixT K) (pv 22) (pe_int) (fun _ _ => rfl)) (pe_str) (nomark _)) (pe_cmpR op_eq (pv 16) (pe_int) (nomark _)) (nomark _))))) (pss_cons (ps_ret (pe_bl)) (pss_nil)) (pss_nil)) (pss_cons (ps_if (pt_cmpR op_notN (pe_cG G20 (hr.mono (by decide)) gd rfl m20 F20.kp b20 pass0 (pa_cons (pv 4) (pa_cons (pv 22) (pa_nil)))) (pe_non) (nomark _)) (pss_cons (ps_ret (pe_bl)) (pss_nil)) (pss_nil)) (pss_cons (ps_if (PW.pt (pw_and (pt_cmpR op_notN (pv 21) (pe_non) (nomark _)) (pw_and1 (pt_cmpR op_ne (pe_cG G21 (hr.mono (by decide)) gd rfl m21 F21.kp b21 pass0 (pa_cons (pv 21) (pa_nil))) (pv 4) (nomark _))))) (pss_cons (ps_ret (pe_bl)) (pss_nil)) (pss_nil)) (pss_cons (ps_if (pt_cmpR op_eq (pe_op op_mod (pv 4) (pe_int)) (pe_int) (nomark _)) (pss_cons (ps_asg (pe_tup (pa_cons (pe_int) (pa_cons (pe_int) (pa_nil)))) (k_gt K (pgs_cons (pg_name (i := 17) sc.nd rfl (by first | exact Or.inl rfl | exact Or.inr rfl)) (pgs_cons (pg_name (i := 18) sc.nd rfl (by first | exact Or.inl rfl | exact Or.inr rfl)) (pgs_nil))))) (pss_cons (ps_for PassesOwn.never rfl (k_pit K (pv 5)) (k_gt K (pgs_cons (pg_name (i := 25) sc.nd rfl (by first | exact Or.inl rfl | exact Or.inr rfl)) (pgs_cons (pg_name (i := 26) sc.nd rfl (by first | exact Or.inl rfl | exact Or.inr rfl)) (pgs_nil)))) (pss_cons (ps_par (i := 17) (j := 18) rfl sc.nd rfl rfl (by decide) rfl rfl (pa_cons (pe_op op_mulX (pv 17) (pv 25)) (pa_cons (pe_op op_mulX (pv 18) (pe_op op_sub (pv 25) (pe_int))) (pa_nil))) (by rfl)) (pss_nil))) (pss_cons (ps_set (i := 23) sc.nd rfl (by first | exact Or.inl rfl | exact Or.inr rfl) (pe_cG G5 (hr.mono (by decide)) gd rfl m5 F5.kp b5 pass0 (pa_cons (pv 17) (pa_cons (pv 18) (pa_nil))))) (pss_cons (ps_if (PW.pt (pw_or (pt_cmpR (k_neD K hr) (pe_cG G22 (hr.mono (by decide)) gd rfl m22 F22.kp b22 pass0 (pa_cons (pv 4) (pa_nil))) (pv 23) (nomark _)) (pw_or1 (PW.pt (pw_and (pt_cmpR op_isN (pe_cG G23 (hr.mono (by decide)) gd rfl m23 F23.kp b23 pass0 (pa_cons (pv 4) (pa_nil))) (pe_non) (nomark _)) (pw_and1 (pt_cmpR op_le (pe_ix (k_ixT K) (pv 23) (pe_int) (fun _ _ => rfl)) (pe_op op_mulX (pe_int) (pe_ix (k_ixT K) (pv 23) (pe_int) (fun _ _ => rfl))) (nomark _)))))))) (pss_cons (ps_ret (pe_bl)) (pss_nil)) (pss_nil)) (pss_cons (ps_if (PW.pt (pw_and (pt_cmpR op_gt (pv 4) (pe_int) (nomark _)) (pw_and1 (pt_cmpR op_ge (pe_op op_mulX (pv 6) (pe_ix (k_ixT K) (pv 23) (pe_int) (fun _ _ => rfl))) (pe_op op_mulX (pv 4) (pe_ix (k_ixT K) (pv 23) (pe_int) (fun _ _ => rfl))) (nomark _))))) (pss_cons (ps_ret (pe_bl)) (pss_nil)) (pss_nil)) (pss_nil)))))) (pss_nil)) (pss_nil))))))))))))))))))))))))))))) (pss_cons (ps_ret (pe_cG G24 (hr.mono (by decide)) gd rfl m24 F24.kp b24 pass0 (pa_cons (pv 1) (pa_nil)))) (pss_nil)))), ?_⟩
    refine q_pot (hd := potHd) (S := H) Ex.rf rfl r_script hf (fun v => [some v_script, some v, none, none, none, none, none, none, none, none, none, none, none, none, none, none, none, none, none, none, none, none, none, none, none, none, none]) (fun _ => rfl) ?_
    intro i S0 H0 w0 p0 g0
    have fin : ∀ v {H' : Hp}, (∃ S', Gm (potPt i).M S0 H0 S' H' ∧ PotAt (potPt i) s' S' H' ∧ rB r v S') → Q v H' := fun v {H'} ⟨S', _, _, h3⟩ => by cases hrt; cases (show v = .bl true from h3); exact fin0 H'
    refine q_set (fun v => [some v_script, some (.ref i.a), some v, none, none, none, none, none, none, none, none, none, none, none, none, none, none, none, none, none, none, none, none, none, none, none, none]) (fun _ => rfl) w0 p0 (EvL.frz (l_lstL (a_consL e_cI (a_consL e_cI (a_consL e_cI (a_consL e_cI (a_consL e_cI (a_consL e_cI (a_consL e_cI (a_consL e_cI (a_consL e_cI (a_consL e_cI (a_nilL (R := rI)))))))))))))) hm0 ?_
    intro known1 vknown9 S2 H3 s4 w5 p6 g8 rknown10 hm7
    refine q_forC (p := (potPt i)) (ρ := Bool) w5 p6 (i_R1 e_cI) (g_nm (R := rI)) hm7 (fun Sb12 st11 σ S' H' s' => Ex Sb12 S' ∧ (∃ (xturn_ : Option V) (xnumber_ : Option V) (xparting_ : Option V) (xtotal_ : Option V) (xkind_ : Option V) (xoften_ : Option V) (xtold_ : Option V) (xnamed_ : Option V) (xparts_ : Option V) (xdivisors_ : Option V) (xrich_ : Option V) (xdue_ : Option V) (xshare_ : Option V) (xexcess_ : Option V) (xabove_ : Option V) (xbelow_ : Option V) (xa_ : Option V) (xb_ : Option V) (xexponent_ : Option V) (xpaper_ : Option V) (xreach_ : Option V) (xp_ : Option V) (xk_ : Option V), σ = [some v_script, some (.ref i.a), some vknown9, xturn_, xnumber_, xparting_, xtotal_, xkind_, xoften_, xtold_, xnamed_, xparts_, xdivisors_, xrich_, xdue_, xshare_, xexcess_, xabove_, xbelow_, xa_, xb_, xexponent_, xpaper_, xreach_, none, xp_, xk_] ∧ Wd (potPt i) S0 H0 S' H' [] ∧ PotAt (potPt i) s' S' H' ∧ Ex S2 S')) (fun r v H' s' => ∃ S', Gm ((potPt i)).M S0 H0 S' H' ∧ PotAt (potPt i) s' S' H' ∧ rB r v S') ?_ ?_ ?_ ?_ ?_ ?_
    · intro S14 H15 s16 w17 p18 g19
      have rknown10 := Mo.mo g19.s rknown10
      exact ⟨Ex.rf, ⟨_, _, _, _, _, _, _, _, _, _, _, _, _, _, _, _, _, _, _, _, _, _, _, rfl, w17, p18, g19.s⟩⟩
    · rintro Sb12 st11 _ S46 H47 s48 ⟨ex49, ⟨xturn20, xnumber21, xparting22, xtotal23, xkind24, xoften25, xtold26, xnamed27, xparts28, xdivisors29, xrich30, xdue31, xshare32, xexcess33, xabove34, xbelow35, xa36, xb37, xexponent38, xpaper39, xreach40, xp41, xk42, rfl, w43, p44, eb45⟩⟩
      exact ⟨ex49, w43.i, p44, ownOk0⟩
    · rintro Sb12 st11 _ S76 H77 s78 S79 H80 ⟨ex82, ⟨xturn50, xnumber51, xparting52, xtotal53, xkind54, xoften55, xtold56, xnamed57, xparts58, xdivisors59, xrich60, xdue61, xshare62, xexcess63, xabove64, xbelow65, xa66, xb67, xexponent68, xpaper69, xreach70, xp71, xk72, rfl, w73, p74, eb75⟩⟩ g81
      exact ⟨ex82.tr g81.s, _, _, _, _, _, _, _, _, _, _, _, _, _, _, _, _, _, _, _, _, _, _, _, rfl, w73.go (Gm.up g81), PotAt.go p74 g81, eb75.tr g81.s⟩
    · rintro Sb12 x13 st11 _ σ117 S109 H110 s111 st11_ s2_ D_ ⟨ex116, ⟨xturn83, xnumber84, xparting85, xtotal86, xkind87, xoften88, xtold89, xnamed90, xparts91, xdivisors92, xrich93, xdue94, xshare95, xexcess96, xabove97, xbelow98, xa99, xb100, xexponent101, xpaper102, xreach103, xp104, xk105, rfl, w106, p107, eb108⟩⟩ hp hm112 nx113 bk114 rt115
      obtain ⟨_, rfl, rfl⟩ := hp
      have rknown10 := Mo.mo eb108 rknown10
      refine q_unp w106 p107 (Ev.eta (e_callP (F := fun i => potPt i) (i := i) (A := fun i => (aOne (rP i))) (E := E0) (fm := fm__law_small) (R := (rT K (aCons rI (aOne (rT K (aAll (rT K (aCons rI (aOne rI))))))))) (a_one (e_var (R := rP i) (a := ()) rfl rfl)))) (g_tp (gq_cons (g_nm (R := rI)) (gq_one (g_nm (R := (rT K (aAll (rT K (aCons rI (aOne rI)))))))))) hm112 ?_
      intro t118 σ126 S119 H120 s121 w122 p123 g125 hp hm124
      have rknown10 := Mo.mo g125.s rknown10
      have eb108 := eb108.tr g125.s
      have ex116 := ex116.tr g125.s
      obtain ⟨_, ⟨_, rfl, rfl⟩, ⟨vparting127, rfl, rparting128⟩⟩ := hp
      refine q_set (fun v => [some v_script, some (.ref i.a), some vknown9, some (.int x13), some v, some vparting127, xtotal86, xkind87, xoften88, xtold89, xnamed90, xparts91, xdivisors92, xrich93, xdue94, xshare95, xexcess96, xabove97, xbelow98, xa99, xb100, xexponent101, xpaper102, xreach103, none, xp104, xk105]) (fun _ => rfl) w122 p123 (Ev.eta (e_callP (F := fun i => potPt i) (i := i) (A := fun i => (aCons (rP i) (aOne (rL (aAll rI))))) (E := E0) (fm := fm__law_one) (R := rI) (a_cons (e_var (R := rP i) (a := ()) rfl rfl) (a_one (EvL.frz (l_lstL (a_consL (e_var (R := rI) rfl rfl) (a_consL (e_var (R := rI) rfl rfl) (a_consL (e_var (R := rI) rfl rfl) (a_consL (Ev.eta (e_callP (F := fun i => potPt i) (i := i) (A := fun i => (aCons (rP i) (aOne (rL (aAll rI))))) (E := E0) (fm := fm__law_one) (R := rI) (a_cons (e_var (R := rP i) (a := ()) rfl rfl) (a_one (e_var rfl rknown10))))) (a_nilL (R := rI)))))))))))) hm124 ?_
      intro number129 vnumber137 S130 H131 s132 w133 p134 g136 rnumber138 hm135
      cases (show vnumber137 = .int number129 from rnumber138)
      have rknown10 := Mo.mo g136.s rknown10
      have rparting128 := Mo.mo g136.s rparting128
      have eb108 := eb108.tr g136.s
      have ex116 := ex116.tr g136.s
      refine q_set (fun v => [some v_script, some (.ref i.a), some vknown9, some (.int x13), some (.int number129), some v, xtotal86, xkind87, xoften88, xtold89, xnamed90, xparts91, xdivisors92, xrich93, xdue94, xshare95, xexcess96, xabove97, xbelow98, xa99, xb100, xexponent101, xpaper102, xreach103, none, xp104, xk105]) (fun _ => rfl) w133 p134 (Ev.eta (e_call (E := E0) (fm := fm__law_primes) (R := (rT K (aAll (rT K (aCons rI (aOne rI)))))) (a_one (e_var (R := rI) rfl rfl)))) hm135 ?_
      intro parting139 vparting147 S140 H141 s142 w143 p144 g146 rparting148 hm145
      have rknown10 := Mo.mo g146.s rknown10
      have eb108 := eb108.tr g146.s
      have ex116 := ex116.tr g146.s
      refine q_set (fun v => [some v_script, some (.ref i.a), some vknown9, some (.int x13), some (.int number129), some vparting147, some v, xkind87, xoften88, xtold89, xnamed90, xparts91, xdivisors92, xrich93, xdue94, xshare95, xexcess96, xabove97, xbelow98, xa99, xb100, xexponent101, xpaper102, xreach103, none, xp104, xk105]) (fun _ => rfl) w143 p144 (Ev.eta (e_call (E := E0) (fm := fm__law_sum) (R := rI) (a_cons (e_var rfl rparting148) (a_one e_cI)))) hm145 ?_
      intro total149 vtotal157 S150 H151 s152 w153 p154 g156 rtotal158 hm155
      cases (show vtotal157 = .int total149 from rtotal158)
      have rknown10 := Mo.mo g156.s rknown10
      have rparting148 := Mo.mo g156.s rparting148
      have eb108 := eb108.tr g156.s
      have ex116 := ex116.tr g156.s
      refine par_go ?_
      refine x_ev w153 p154 (Ev.eta (e_call (E := E0) (fm := fm__law_made) (R := (rT K (aCons rI (aOne rI)))) (a_cons (e_var (R := rI) rfl rfl) (a_one (e_var (R := rI) rfl rfl))))) hm155 ?_
      intro share159 vshare167 S160 H161 s162 w163 p164 g166 rshare168 hm165
      have rknown10 := Mo.mo g166.s rknown10
      have rparting148 := Mo.mo g166.s rparting148
      have eb108 := eb108.tr g166.s
      have ex116 := ex116.tr g166.s
      refine x_ev w163 p164 (e_sub (e_var (R := rI) rfl rfl) (e_mul e_cI (e_var (R := rI) rfl rfl))) hm165 ?_
      intro excess169 vexcess177 S170 H171 s172 w173 p174 g176 rexcess178 hm175
      cases (show vexcess177 = .int excess169 from rexcess178)
      have rknown10 := Mo.mo g176.s rknown10
      have rparting148 := Mo.mo g176.s rparting148
      have rshare168 := Mo.mo g176.s rshare168
      have eb108 := eb108.tr g176.s
      have ex116 := ex116.tr g176.s
      refine par_end [some v_script, some (.ref i.a), some vknown9, some (.int x13), some (.int number129), some vparting147, some (.int total149), xkind87, xoften88, xtold89, xnamed90, xparts91, xdivisors92, xrich93, xdue94, some vshare167, some (.int excess169), xabove97, xbelow98, xa99, xb100, xexponent101, xpaper102, xreach103, none, xp104, xk105] rfl ?_
      refine q_set (fun v => [some v_script, some (.ref i.a), some vknown9, some (.int x13), some (.int number129), some vparting147, some (.int total149), some v, xoften88, xtold89, xnamed90, xparts91, xdivisors92, xrich93, xdue94, some vshare167, some (.int excess169), xabove97, xbelow98, xa99, xb100, xexponent101, xpaper102, xreach103, none, xp104, xk105]) (fun _ => rfl) w173 p174 (e_ifT (R := rS) (t_Test (e_gt (e_var (R := rI) rfl rfl) e_cI)) e_cS (e_ifT (R := rS) (t_Test (e_lt (e_var (R := rI) rfl rfl) e_cI)) e_cS e_cS)) hm175 ?_
      intro kind179 vkind187 S180 H181 s182 w183 p184 g186 rkind188 hm185
      cases (show vkind187 = .str kind179 from rkind188)
      have rknown10 := Mo.mo g186.s rknown10
      have rparting148 := Mo.mo g186.s rparting148
      have rshare168 := Mo.mo g186.s rshare168
      have eb108 := eb108.tr g186.s
      have ex116 := ex116.tr g186.s
      refine q_set (fun v => [some v_script, some (.ref i.a), some vknown9, some (.int x13), some (.int number129), some vparting147, some (.int total149), some (.str kind179), some v, xtold89, xnamed90, xparts91, xdivisors92, xrich93, xdue94, some vshare167, some (.int excess169), xabove97, xbelow98, xa99, xb100, xexponent101, xpaper102, xreach103, none, xp104, xk105]) (fun _ => rfl) w183 p184 (e_ifT (R := (rO rI)) (t_Test (e_eq (e_ixC (n := 1) (mB := fun k => k 1) (A := (aCons rI (aOne rI))) (R := rI) (f := fun a => a.2) (e_var rfl rshare168) rfl (fun a vs S h => by obtain ⟨_, _, rfl, h0, ⟨_, rfl, h1⟩⟩ := h; exact ⟨_, rfl, h1⟩)) e_cI)) (Ev.some (e_ixC (n := 0) (mB := fun k => k 0) (A := (aCons rI (aOne rI))) (R := rI) (f := fun a => a.1) (e_var rfl rshare168) rfl (fun a vs S h => by obtain ⟨_, _, rfl, h0, ⟨_, rfl, h1⟩⟩ := h; exact ⟨_, rfl, h0⟩))) (Ev.none (R := rI) e_cN)) hm185 ?_
      intro often189 voften197 S190 H191 s192 w193 p194 g196 roften198 hm195
      have rknown10 := Mo.mo g196.s rknown10
      have rparting148 := Mo.mo g196.s rparting148
      have rshare168 := Mo.mo g196.s rshare168
      have eb108 := eb108.tr g196.s
      have ex116 := ex116.tr g196.s
      refine q_set (fun v => [some v_script, some (.ref i.a), some vknown9, some (.int x13), some (.int number129), some vparting147, some (.int total149), some (.str kind179), some voften197, some v, xnamed90, xparts91, xdivisors92, xrich93, xdue94, some vshare167, some (.int excess169), xabove97, xbelow98, xa99, xb100, xexponent101, xpaper102, xreach103, none, xp104, xk105]) (fun _ => rfl) w193 p194 (EvL.frz (l_lst (a_cons (Ev.eta (e_call (E := E0) (fm := fm_kind_of) (R := rS) (a_one (e_var (R := rI) rfl rfl)))) (a_cons (Ev.eta (e_call (E := E0) (fm := fm_excess_of) (R := rI) (a_one (e_var (R := rI) rfl rfl)))) (a_cons (Ev.eta (e_call (E := E0) (fm := fm_share_of) (R := (rT K (aCons rI (aOne rI)))) (a_one (e_var (R := rI) rfl rfl)))) (a_cons (Ev.eta (e_call (E := E0) (fm := fm_often_as_much) (R := (rO rI)) (a_one (e_var (R := rI) rfl rfl)))) (a_one (Ev.eta (e_call (E := E0) (fm := fm_is_perfect) (R := rB) (a_one (e_var (R := rI) rfl rfl))))))))) (arN_cons (arN_cons (arN_cons (arN_cons arN_one)))) (by decide))) hm195 ?_
      intro told199 vtold207 S200 H201 s202 w203 p204 g206 rtold208 hm205
      have rknown10 := Mo.mo g206.s rknown10
      have rparting148 := Mo.mo g206.s rparting148
      have rshare168 := Mo.mo g206.s rshare168
      have roften198 := Mo.mo g206.s roften198
      have eb108 := eb108.tr g206.s
      have ex116 := ex116.tr g206.s
      refine q_set (fun v => [some v_script, some (.ref i.a), some vknown9, some (.int x13), some (.int number129), some vparting147, some (.int total149), some (.str kind179), some voften197, some vtold207, some v, xparts91, xdivisors92, xrich93, xdue94, some vshare167, some (.int excess169), xabove97, xbelow98, xa99, xb100, xexponent101, xpaper102, xreach103, none, xp104, xk105]) (fun _ => rfl) w203 p204 (EvL.frz (l_lst (a_cons (e_callK (E := E0) (n := 0) (m' := 1) (ix := [0]) (fm := fm_kind_of) (A := (aOne rI)) (A1 := aNil) (A2 := (aOne rI)) (R := rS) (fun a b => b) a_nil (a_one (e_var (R := rI) rfl rfl)) (fun a b vs zs S h1 h2 => by obtain rfl := h1; obtain ⟨_, rfl, y0⟩ := h2; exact ⟨rfl, rfl, ⟨_, rfl, y0⟩⟩)) (a_cons (e_callK (E := E0) (n := 0) (m' := 1) (ix := [0]) (fm := fm_excess_of) (A := (aOne rI)) (A1 := aNil) (A2 := (aOne rI)) (R := rI) (fun a b => b) a_nil (a_one (e_var (R := rI) rfl rfl)) (fun a b vs zs S h1 h2 => by obtain rfl := h1; obtain ⟨_, rfl, y0⟩ := h2; exact ⟨rfl, rfl, ⟨_, rfl, y0⟩⟩)) (a_one (e_callK (E := E0) (n := 0) (m' := 1) (ix := [0]) (fm := fm_share_of) (A := (aOne rI)) (A1 := aNil) (A2 := (aOne rI)) (R := (rT K (aCons rI (aOne rI)))) (fun a b => b) a_nil (a_one (e_var (R := rI) rfl rfl)) (fun a b vs zs S h1 h2 => by obtain rfl := h1; obtain ⟨_, rfl, y0⟩ := h2; exact ⟨rfl, rfl, ⟨_, rfl, y0⟩⟩))))) (arN_cons (arN_cons arN_one)) (by decide))) hm205 ?_
      intro named209 vnamed217 S210 H211 s212 w213 p214 g216 rnamed218 hm215
      have rknown10 := Mo.mo g216.s rknown10
      have rparting148 := Mo.mo g216.s rparting148
      have rshare168 := Mo.mo g216.s rshare168
      have roften198 := Mo.mo g216.s roften198
      have rtold208 := Mo.mo g216.s rtold208
      have eb108 := eb108.tr g216.s
      have ex116 := ex116.tr g216.s
      refine q_set (fun v => [some v_script, some (.ref i.a), some vknown9, some (.int x13), some (.int number129), some vparting147, some (.int total149), some (.str kind179), some voften197, some vtold207, some v, xparts91, xdivisors92, xrich93, xdue94, some vshare167, some (.int excess169), xabove97, xbelow98, xa99, xb100, xexponent101, xpaper102, xreach103, none, xp104, xk105]) (fun _ => rfl) w213 p214 (EvL.frz (l_catC (A := (aCons rS (aCons rI (aOne (rT K (aCons rI (aOne rI))))))) (B := (aCons (rO rI) (aOne rB))) (C := (aCons rS (aCons rI (aCons (rT K (aCons rI (aOne rI))) (aCons (rO rI) (aOne rB)))))) (fun a b => (a.1, a.2.1, a.2.2, b.1, b.2)) 5 (Ev.rd (e_var rfl rnamed218)) (EvL.rd (l_lst (a_cons (e_callK (E := E0) (n := 0) (m' := 1) (ix := [0]) (fm := fm_often_as_much) (A := (aOne rI)) (A1 := aNil) (A2 := (aOne rI)) (R := (rO rI)) (fun a b => b) a_nil (a_one (e_var (R := rI) rfl rfl)) (fun a b vs zs S h1 h2 => by obtain rfl := h1; obtain ⟨_, rfl, y0⟩ := h2; exact ⟨rfl, rfl, ⟨_, rfl, y0⟩⟩)) (a_one (e_callK (E := E0) (n := 0) (m' := 1) (ix := [0]) (fm := fm_is_perfect) (A := (aOne rI)) (A1 := aNil) (A2 := (aOne rI)) (R := rB) (fun a b => b) a_nil (a_one (e_var (R := rI) rfl rfl)) (fun a b vs zs S h1 h2 => by obtain rfl := h1; obtain ⟨_, rfl, y0⟩ := h2; exact ⟨rfl, rfl, ⟨_, rfl, y0⟩⟩)))) (arN_cons arN_one) (by decide))) (fun a b vs ws S h h' => by obtain ⟨_, _, rfl, h0, ⟨_, _, rfl, h1, ⟨_, rfl, h2⟩⟩⟩ := h; obtain ⟨_, _, rfl, g0, ⟨_, rfl, g1⟩⟩ := h'; exact ⟨⟨_, _, rfl, h0, ⟨_, _, rfl, h1, ⟨_, _, rfl, h2, ⟨_, _, rfl, g0, ⟨_, rfl, g1⟩⟩⟩⟩⟩, Nat.le_refl _⟩) (by decide))) hm215 ?_
      intro named219 vnamed227 S220 H221 s222 w223 p224 g226 rnamed228 hm225
      have rknown10 := Mo.mo g226.s rknown10
      have rparting148 := Mo.mo g226.s rparting148
      have rshare168 := Mo.mo g226.s rshare168
      have roften198 := Mo.mo g226.s roften198
      have rtold208 := Mo.mo g226.s rtold208
      have eb108 := eb108.tr g226.s
      have ex116 := ex116.tr g226.s
      refine q_if w223 p224 (t_Test (e_neW (c_repr (EvL.frz (l_lstL (a_consL (e_var rfl rtold208) (a_consL (e_var rfl rnamed228) (a_nilL (R := (rL (aCons rS (aCons rI (aCons (rT K (aCons rI (aOne rI))) (aCons (rO rI) (aOne rB)))))))))))) (d_L (ds_all (d_L (ds_cons d_S (ds_cons d_I (ds_cons (d_T (ds_cons d_I (ds_one d_I))) (ds_cons (d_O d_I) (ds_one d_B))))))))) (c_repr (EvL.frz (l_rep (EvL.rd (l_lstL (a_consL (EvL.frz (l_lst (a_cons (e_var (R := rS) rfl rfl) (a_cons (e_var (R := rI) rfl rfl) (a_cons (e_var rfl rshare168) (a_cons (e_var rfl roften198) (a_one (e_eq (e_var (R := rI) rfl rfl) e_cI)))))) (arN_cons (arN_cons (arN_cons (arN_cons arN_one)))) (by decide))) (a_nilL (R := (rL (aCons rS (aCons rI (aCons (rT K (aCons rI (aOne rI))) (aCons (rO rI) (aOne rB))))))))))) e_cI)) (d_L (ds_all (d_L (ds_cons d_S (ds_cons d_I (ds_cons (d_T (ds_cons d_I (ds_one d_I))) (ds_cons (d_O d_I) (ds_one d_B))))))))))) hm225 ?_ ?_
      · intro S229 H230 s231 w232 p233 g234 hm235
        have rknown10 := Mo.mo g234.s rknown10
        have rparting148 := Mo.mo g234.s rparting148
        have rshare168 := Mo.mo g234.s rshare168
        have roften198 := Mo.mo g234.s roften198
        have rtold208 := Mo.mo g234.s rtold208
        have rnamed228 := Mo.mo g234.s rnamed228
        have eb108 := eb108.tr g234.s
        have ex116 := ex116.tr g234.s
        refine q_ret w232 p233 e_cB hm235 ?_
        intro r243 v244 S236 H237 s238 w239 p240 g242 rr245 hm241
        cases run_of_pure hm241
        exact rt115 _ _ _ rfl ⟨S236, w239.g, p240, rr245⟩
      · intro S246 H247 s248 w249 p250 g251 hm252
        have rknown10 := Mo.mo g251.s rknown10
        have rparting148 := Mo.mo g251.s rparting148
        have rshare168 := Mo.mo g251.s rshare168
        have roften198 := Mo.mo g251.s roften198
        have rtold208 := Mo.mo g251.s rtold208
        have rnamed228 := Mo.mo g251.s rnamed228
        have eb108 := eb108.tr g251.s
        have ex116 := ex116.tr g251.s
        refine nx_done ?_
        refine q_if w249 p250 (t_Test (e_ne (Ev.eta (e_call (E := E0) (fm := fm_divisor_sum) (R := rI) (a_cons (e_var (R := rI) rfl rfl) (a_one e_cI)))) (e_var (R := rI) rfl rfl))) hm252 ?_ ?_
        · intro S253 H254 s255 w256 p257 g258 hm259
          have rknown10 := Mo.mo g258.s rknown10
          have rparting148 := Mo.mo g258.s rparting148
          have rshare168 := Mo.mo g258.s rshare168
          have roften198 := Mo.mo g258.s roften198
          have rtold208 := Mo.mo g258.s rtold208
          have rnamed228 := Mo.mo g258.s rnamed228
          have eb108 := eb108.tr g258.s
          have ex116 := ex116.tr g258.s
          refine q_ret w256 p257 e_cB hm259 ?_
          intro r267 v268 S260 H261 s262 w263 p264 g266 rr269 hm265
          cases run_of_pure hm265
          exact rt115 _ _ _ rfl ⟨S260, w263.g, p264, rr269⟩
        · intro S270 H271 s272 w273 p274 g275 hm276
          have rknown10 := Mo.mo g275.s rknown10
          have rparting148 := Mo.mo g275.s rparting148
          have rshare168 := Mo.mo g275.s rshare168
          have roften198 := Mo.mo g275.s roften198
          have rtold208 := Mo.mo g275.s rtold208
          have rnamed228 := Mo.mo g275.s rnamed228
          have eb108 := eb108.tr g275.s
          have ex116 := ex116.tr g275.s
          refine nx_done ?_
          refine q_set (fun v => [some v_script, some (.ref i.a), some vknown9, some (.int x13), some (.int number129), some vparting147, some (.int total149), some (.str kind179), some voften197, some vtold207, some vnamed227, some v, xdivisors92, xrich93, xdue94, some vshare167, some (.int excess169), xabove97, xbelow98, xa99, xb100, xexponent101, xpaper102, xreach103, none, xp104, xk105]) (fun _ => rfl) w273 p274 (Ev.eta (e_call (E := E0) (fm := fm_prime_shares) (R := (rT K (aAll (rT K (aCons rI (aOne rI)))))) (a_one (e_var (R := rI) rfl rfl)))) hm276 ?_
          intro parts277 vparts285 S278 H279 s280 w281 p282 g284 rparts286 hm283
          have rknown10 := Mo.mo g284.s rknown10
          have rparting148 := Mo.mo g284.s rparting148
          have rshare168 := Mo.mo g284.s rshare168
          have roften198 := Mo.mo g284.s roften198
          have rtold208 := Mo.mo g284.s rtold208
          have rnamed228 := Mo.mo g284.s rnamed228
          have eb108 := eb108.tr g284.s
          have ex116 := ex116.tr g284.s
          refine tup2_go ?_
          refine x_ev w281 p282 e_cI hm283 ?_
          intro above287 vabove295 S288 H289 s290 w291 p292 g294 rabove296 hm293
          cases (show vabove295 = .int above287 from rabove296)
          have rknown10 := Mo.mo g294.s rknown10
          have rparting148 := Mo.mo g294.s rparting148
          have rshare168 := Mo.mo g294.s rshare168
          have roften198 := Mo.mo g294.s roften198
          have rtold208 := Mo.mo g294.s rtold208
          have rnamed228 := Mo.mo g294.s rnamed228
          have rparts286 := Mo.mo g294.s rparts286
          have eb108 := eb108.tr g294.s
          have ex116 := ex116.tr g294.s
          refine x_ev w291 p292 e_cI hm293 ?_
          intro below297 vbelow305 S298 H299 s300 w301 p302 g304 rbelow306 hm303
          cases (show vbelow305 = .int below297 from rbelow306)
          have rknown10 := Mo.mo g304.s rknown10
          have rparting148 := Mo.mo g304.s rparting148
          have rshare168 := Mo.mo g304.s rshare168
          have roften198 := Mo.mo g304.s roften198
          have rtold208 := Mo.mo g304.s rtold208
          have rnamed228 := Mo.mo g304.s rnamed228
          have rparts286 := Mo.mo g304.s rparts286
          have eb108 := eb108.tr g304.s
          have ex116 := ex116.tr g304.s
          refine tup_end (is := [17, 18]) [some v_script, some (.ref i.a), some vknown9, some (.int x13), some (.int number129), some vparting147, some (.int total149), some (.str kind179), some voften197, some vtold207, some vnamed227, some vparts285, xdivisors92, xrich93, xdue94, some vshare167, some (.int excess169), some (.int above287), some (.int below297), xa99, xb100, xexponent101, xpaper102, xreach103, none, xp104, xk105] w301 p302 rfl (by simp) rfl ?_
          intro S307 H308 w309 p310 g311
          have rknown10 := Mo.mo g311.s rknown10
          have rparting148 := Mo.mo g311.s rparting148
          have rshare168 := Mo.mo g311.s rshare168
          have roften198 := Mo.mo g311.s roften198
          have rtold208 := Mo.mo g311.s rtold208
          have rnamed228 := Mo.mo g311.s rnamed228
          have rparts286 := Mo.mo g311.s rparts286
          have eb108 := eb108.tr g311.s
          have ex116 := ex116.tr g311.s
          refine q_for (p := (potPt i)) w309 p310 (i_T (e_var rfl rparts286)) (g_tp (gq_cons (g_nm (R := rI)) (gq_one (g_nm (R := rI))))) hm303 (fun Sb313 st312 σ S' H' s' => Ex Sb313 S' ∧ (∃ (xa_ : Option V) (xb_ : Option V), σ = [some v_script, some (.ref i.a), some vknown9, some (.int x13), some (.int number129), some vparting147, some (.int total149), some (.str kind179), some voften197, some vtold207, some vnamed227, some vparts285, xdivisors92, xrich93, xdue94, some vshare167, some (.int excess169), some (.int st312.1), some (.int st312.2), xa_, xb_, xexponent101, xpaper102, xreach103, none, xp104, xk105] ∧ Wd (potPt i) S0 H0 S' H' [] ∧ PotAt (potPt i) s' S' H' ∧ Ex S307 S')) ?_ ?_ ?_ ?_ ?_
          · intro S315 H316 s317 w318 p319 g320
            have rknown10 := Mo.mo g320.s rknown10
            have rparting148 := Mo.mo g320.s rparting148
            have rshare168 := Mo.mo g320.s rshare168
            have roften198 := Mo.mo g320.s roften198
            have rtold208 := Mo.mo g320.s rtold208
            have rnamed228 := Mo.mo g320.s rnamed228
            have rparts286 := Mo.mo g320.s rparts286
            have eb108 := eb108.tr g320.s
            have ex116 := ex116.tr g320.s
            exact ⟨Ex.rf, ⟨_, _, rfl, w318, p319, g320.s⟩⟩
          · rintro Sb313 st312 _ S326 H327 s328 ⟨ex329, ⟨xa321, xb322, rfl, w323, p324, eb325⟩⟩
            exact ⟨ex329, w323.i, p324, ownOk0⟩
          · rintro Sb313 st312 _ S335 H336 s337 S338 H339 ⟨ex341, ⟨xa330, xb331, rfl, w332, p333, eb334⟩⟩ g340
            exact ⟨ex341.tr g340.s, _, _, rfl, w332.go (Gm.up g340), PotAt.go p333 g340, eb334.tr g340.s⟩
          · rintro Sb313 x314 st312 _ σ355 S347 H348 s349 st312_ s2_ D_ ⟨ex354, ⟨xa342, xb343, rfl, w344, p345, eb346⟩⟩ hp hm350 nx351
            obtain ⟨_, ⟨_, rfl, rfl⟩, ⟨_, rfl, rfl⟩⟩ := hp
            have rknown10 := Mo.mo eb346 rknown10
            have rparting148 := Mo.mo eb346 rparting148
            have rshare168 := Mo.mo eb346 rshare168
            have roften198 := Mo.mo eb346 roften198
            have rtold208 := Mo.mo eb346 rtold208
            have rnamed228 := Mo.mo eb346 rnamed228
            have rparts286 := Mo.mo eb346 rparts286
            have eb108 := eb108.tr eb346
            have ex116 := ex116.tr eb346
            refine par_go ?_
            refine x_ev w344 p345 (e_mul (e_var (R := rI) rfl rfl) (e_var (R := rI) rfl rfl)) hm350 ?_
            intro above356 vabove364 S357 H358 s359 w360 p361 g363 rabove365 hm362
            cases (show vabove364 = .int above356 from rabove365)
            have rknown10 := Mo.mo g363.s rknown10
            have rparting148 := Mo.mo g363.s rparting148
            have rshare168 := Mo.mo g363.s rshare168
            have roften198 := Mo.mo g363.s roften198
            have rtold208 := Mo.mo g363.s rtold208
            have rnamed228 := Mo.mo g363.s rnamed228
            have rparts286 := Mo.mo g363.s rparts286
            have eb108 := eb108.tr g363.s
            have ex116 := ex116.tr g363.s
            have eb346 := eb346.tr g363.s
            have ex354 := ex354.tr g363.s
            refine x_ev w360 p361 (e_mul (e_var (R := rI) rfl rfl) (e_var (R := rI) rfl rfl)) hm362 ?_
            intro below366 vbelow374 S367 H368 s369 w370 p371 g373 rbelow375 hm372
            cases (show vbelow374 = .int below366 from rbelow375)
            have rknown10 := Mo.mo g373.s rknown10
            have rparting148 := Mo.mo g373.s rparting148
            have rshare168 := Mo.mo g373.s rshare168
            have roften198 := Mo.mo g373.s roften198
            have rtold208 := Mo.mo g373.s rtold208
            have rnamed228 := Mo.mo g373.s rnamed228
            have rparts286 := Mo.mo g373.s rparts286
            have eb108 := eb108.tr g373.s
            have ex116 := ex116.tr g373.s
            have eb346 := eb346.tr g373.s
            have ex354 := ex354.tr g373.s
            refine par_end [some v_script, some (.ref i.a), some vknown9, some (.int x13), some (.int number129), some vparting147, some (.int total149), some (.str kind179), some voften197, some vtold207, some vnamed227, some vparts285, xdivisors92, xrich93, xdue94, some vshare167, some (.int excess169), some (.int above356), some (.int below366), some (.int x314.1), some (.int x314.2), xexponent101, xpaper102, xreach103, none, xp104, xk105] rfl ?_
            cases run_of_pure hm372
            exact (nx351 _ _ _ ⟨ex354, ⟨_, _, rfl, w370, p371, eb346⟩⟩).1
          · rintro Sb313 st312 _ S381 H382 s383 ⟨_, ⟨xa376, xb377, rfl, w378, p379, eb380⟩⟩ hm384
            have rknown10 := Mo.mo eb380 rknown10
            have rparting148 := Mo.mo eb380 rparting148
            have rshare168 := Mo.mo eb380 rshare168
            have roften198 := Mo.mo eb380 roften198
            have rtold208 := Mo.mo eb380 rtold208
            have rnamed228 := Mo.mo eb380 rnamed228
            have rparts286 := Mo.mo eb380 rparts286
            have eb108 := eb108.tr eb380
            have ex116 := ex116.tr eb380
            refine q_if w378 p379 (t_or (t_Test (e_ne (c_lenT (e_var rfl rparts286)) (c_lenT (e_var rfl rparting148)))) (t_Test (e_neQ (q_T (qs_cons q_I (qs_one q_I))) (by decide) (Ev.Q (Ev.eta (e_call (E := E0) (fm := fm__law_made) (R := (rT K (aCons rI (aOne rI)))) (a_cons (e_var (R := rI) rfl rfl) (a_one (e_var (R := rI) rfl rfl))))) (d_T (ds_cons d_I (ds_one d_I)))) (Ev.Q (e_var rfl rshare168) (d_T (ds_cons d_I (ds_one d_I))))))) hm384 ?_ ?_
            · intro S385 H386 s387 w388 p389 g390 hm391
              have rknown10 := Mo.mo g390.s rknown10
              have rparting148 := Mo.mo g390.s rparting148
              have rshare168 := Mo.mo g390.s rshare168
              have roften198 := Mo.mo g390.s roften198
              have rtold208 := Mo.mo g390.s rtold208
              have rnamed228 := Mo.mo g390.s rnamed228
              have rparts286 := Mo.mo g390.s rparts286
              have eb108 := eb108.tr g390.s
              have ex116 := ex116.tr g390.s
              refine q_ret w388 p389 e_cB hm391 ?_
              intro r399 v400 S392 H393 s394 w395 p396 g398 rr401 hm397
              cases run_of_pure hm397
              exact rt115 _ _ _ rfl ⟨S392, w395.g, p396, rr401⟩
            · intro S402 H403 s404 w405 p406 g407 hm408
              have rknown10 := Mo.mo g407.s rknown10
              have rparting148 := Mo.mo g407.s rparting148
              have rshare168 := Mo.mo g407.s rshare168
              have roften198 := Mo.mo g407.s roften198
              have rtold208 := Mo.mo g407.s rtold208
              have rnamed228 := Mo.mo g407.s rnamed228
              have rparts286 := Mo.mo g407.s rparts286
              have eb108 := eb108.tr g407.s
              have ex116 := ex116.tr g407.s
              refine nx_done ?_
              refine q_if w405 p406 (t_Test (e_neW (c_repr (Ev.eta (e_call (E := E0) (fm := fm_is_seen_alone) (R := rB) (a_one (e_var (R := rI) rfl rfl)))) d_B) (c_repr (e_eq (Ev.eta (e_call (E := E0) (fm := fm__law_common) (R := rI) (a_cons (e_var (R := rI) rfl rfl) (a_one (e_var (R := rI) rfl rfl))))) e_cI) d_B))) hm408 ?_ ?_
              · intro S409 H410 s411 w412 p413 g414 hm415
                have rknown10 := Mo.mo g414.s rknown10
                have rparting148 := Mo.mo g414.s rparting148
                have rshare168 := Mo.mo g414.s rshare168
                have roften198 := Mo.mo g414.s roften198
                have rtold208 := Mo.mo g414.s rtold208
                have rnamed228 := Mo.mo g414.s rnamed228
                have rparts286 := Mo.mo g414.s rparts286
                have eb108 := eb108.tr g414.s
                have ex116 := ex116.tr g414.s
                refine q_ret w412 p413 e_cB hm415 ?_
                intro r423 v424 S416 H417 s418 w419 p420 g422 rr425 hm421
                cases run_of_pure hm421
                exact rt115 _ _ _ rfl ⟨S416, w419.g, p420, rr425⟩
              · intro S426 H427 s428 w429 p430 g431 hm432
                have rknown10 := Mo.mo g431.s rknown10
                have rparting148 := Mo.mo g431.s rparting148
                have rshare168 := Mo.mo g431.s rshare168
                have roften198 := Mo.mo g431.s roften198
                have rtold208 := Mo.mo g431.s rtold208
                have rnamed228 := Mo.mo g431.s rnamed228
                have rparts286 := Mo.mo g431.s rparts286
                have eb108 := eb108.tr g431.s
                have ex116 := ex116.tr g431.s
                refine nx_done ?_
                refine q_set (fun v => [some v_script, some (.ref i.a), some vknown9, some (.int x13), some (.int number129), some vparting147, some (.int total149), some (.str kind179), some voften197, some vtold207, some vnamed227, some vparts285, some v, xrich93, xdue94, some vshare167, some (.int excess169), some (.int st312.1), some (.int st312.2), xa376, xb377, xexponent101, xpaper102, xreach103, none, xp104, xk105]) (fun _ => rfl) w429 p430 (EvL.frz (EvL.eta (l_call (E := E0) (fm := fm__law_divisors) (R := (aAll rI)) (a_one (e_var rfl rparting148))))) hm432 ?_
                intro divisors433 vdivisors441 S434 H435 s436 w437 p438 g440 rdivisors442 hm439
                have rknown10 := Mo.mo g440.s rknown10
                have rparting148 := Mo.mo g440.s rparting148
                have rshare168 := Mo.mo g440.s rshare168
                have roften198 := Mo.mo g440.s roften198
                have rtold208 := Mo.mo g440.s rtold208
                have rnamed228 := Mo.mo g440.s rnamed228
                have rparts286 := Mo.mo g440.s rparts286
                have eb108 := eb108.tr g440.s
                have ex116 := ex116.tr g440.s
                refine q_set (fun v => [some v_script, some (.ref i.a), some vknown9, some (.int x13), some (.int number129), some vparting147, some (.int total149), some (.str kind179), some voften197, some vtold207, some vnamed227, some vparts285, some vdivisors441, some v, xdue94, some vshare167, some (.int excess169), some (.int st312.1), some (.int st312.2), xa376, xb377, xexponent101, xpaper102, xreach103, none, xp104, xk105]) (fun _ => rfl) w437 p438 (EvL.frz (l_lc (γ := Int) (vs := [24]) (mt := fun x443 k => Mir.lft (m__law_primes x443) >>= fun r449 => Mir.lft (m__law_sum r449 (1 : Int)) >>= fun r448 => Mir.lft (grd (Sm (2 : Int) ∧ Sm x443)) >>= fun _ => k (decide (((2 : Int) * x443) ≤ r448))) (me := fun x443 k => k x443) (R' := rI) (i_L (K := K) (e_var rfl rdivisors442)) ownOk0 (g_nm (R := rI)) (fun x σ' S hp => by obtain ⟨_, rfl, _⟩ := hp; rfl) (fun x443 σ' S1 H1 g444 hp => by have w445 := w437.go g444; obtain ⟨_, rfl, rfl⟩ := hp; have rknown10 := Mo.mo g444.s rknown10; have rparting148 := Mo.mo g444.s rparting148; have rshare168 := Mo.mo g444.s rshare168; have roften198 := Mo.mo g444.s roften198; have rtold208 := Mo.mo g444.s rtold208; have rnamed228 := Mo.mo g444.s rnamed228; have rparts286 := Mo.mo g444.s rparts286; have rdivisors442 := Mo.mo g444.s rdivisors442; exact (t_Test (e_ge (Ev.eta (e_call (E := E0) (fm := fm__law_sum) (R := rI) (a_cons (Ev.eta (e_call (E := E0) (fm := fm__law_primes) (R := (rT K (aAll (rT K (aCons rI (aOne rI)))))) (a_one (e_var (R := rI) rfl rfl)))) (a_one e_cI)))) (e_mul e_cI (e_var (R := rI) rfl rfl))))) (fun x443 σ' S1 H1 g444 hp => by have w445 := w437.go g444; obtain ⟨_, rfl, rfl⟩ := hp; have rknown10 := Mo.mo g444.s rknown10; have rparting148 := Mo.mo g444.s rparting148; have rshare168 := Mo.mo g444.s rshare168; have roften198 := Mo.mo g444.s roften198; have rtold208 := Mo.mo g444.s rtold208; have rnamed228 := Mo.mo g444.s rnamed228; have rparts286 := Mo.mo g444.s rparts286; have rdivisors442 := Mo.mo g444.s rdivisors442; exact (e_var (R := rI) rfl rfl)) pm_nm)) hm439 ?_
                intro rich450 vrich458 S451 H452 s453 w454 p455 g457 rrich459 hm456
                have rknown10 := Mo.mo g457.s rknown10
                have rparting148 := Mo.mo g457.s rparting148
                have rshare168 := Mo.mo g457.s rshare168
                have roften198 := Mo.mo g457.s roften198
                have rtold208 := Mo.mo g457.s rtold208
                have rnamed228 := Mo.mo g457.s rnamed228
                have rparts286 := Mo.mo g457.s rparts286
                have rdivisors442 := Mo.mo g457.s rdivisors442
                have eb108 := eb108.tr g457.s
                have ex116 := ex116.tr g457.s
                refine q_set (fun v => [some v_script, some (.ref i.a), some vknown9, some (.int x13), some (.int number129), some vparting147, some (.int total149), some (.str kind179), some voften197, some vtold207, some vnamed227, some vparts285, some vdivisors441, some vrich458, some v, some vshare167, some (.int excess169), some (.int st312.1), some (.int st312.2), xa376, xb377, xexponent101, xpaper102, xreach103, none, xp104, xk105]) (fun _ => rfl) w454 p455 (e_if (R := (rO rI)) (t_Test (e_neQ (q_L (qs_all q_I)) (by decide) (Ev.Q (e_var rfl rrich459) (d_L (ds_all d_I))) (EvR.Q (EvL.rd (l_lstL (a_nilL (R := rI)))) (ds_all d_I)))) (Ev.some (e_ixL (Ev.rd (e_var rfl rrich459)) e_cI)) (Ev.none (R := rI) e_cN)) hm456 ?_
                intro due460 vdue468 S461 H462 s463 w464 p465 g467 rdue469 hm466
                have rknown10 := Mo.mo g467.s rknown10
                have rparting148 := Mo.mo g467.s rparting148
                have rshare168 := Mo.mo g467.s rshare168
                have roften198 := Mo.mo g467.s roften198
                have rtold208 := Mo.mo g467.s rtold208
                have rnamed228 := Mo.mo g467.s rnamed228
                have rparts286 := Mo.mo g467.s rparts286
                have rdivisors442 := Mo.mo g467.s rdivisors442
                have rrich459 := Mo.mo g467.s rrich459
                have eb108 := eb108.tr g467.s
                have ex116 := ex116.tr g467.s
                refine q_if w464 p465 (t_Test (e_neW (c_repr (EvL.frz (l_lstL (a_consL (Ev.eta (e_call (E := E0) (fm := fm_first_divisor) (R := (rO rI)) (a_one (e_var (R := rI) rfl rfl)))) (a_consL (e_callK (E := E0) (n := 0) (m' := 1) (ix := [0]) (fm := fm_first_divisor) (A := (aOne rI)) (A1 := aNil) (A2 := (aOne rI)) (R := (rO rI)) (fun a b => b) a_nil (a_one (e_var (R := rI) rfl rfl)) (fun a b vs zs S h1 h2 => by obtain rfl := h1; obtain ⟨_, rfl, y0⟩ := h2; exact ⟨rfl, rfl, ⟨_, rfl, y0⟩⟩)) (a_nilL (R := (rO rI))))))) (d_L (ds_all (d_O d_I)))) (c_repr (EvL.frz (l_lstL (a_consL (e_var rfl rdue469) (a_consL (e_var rfl rdue469) (a_nilL (R := (rO rI))))))) (d_L (ds_all (d_O d_I)))))) hm466 ?_ ?_
                · intro S470 H471 s472 w473 p474 g475 hm476
                  have rknown10 := Mo.mo g475.s rknown10
                  have rparting148 := Mo.mo g475.s rparting148
                  have rshare168 := Mo.mo g475.s rshare168
                  have roften198 := Mo.mo g475.s roften198
                  have rtold208 := Mo.mo g475.s rtold208
                  have rnamed228 := Mo.mo g475.s rnamed228
                  have rparts286 := Mo.mo g475.s rparts286
                  have rdivisors442 := Mo.mo g475.s rdivisors442
                  have rrich459 := Mo.mo g475.s rrich459
                  have rdue469 := Mo.mo g475.s rdue469
                  have eb108 := eb108.tr g475.s
                  have ex116 := ex116.tr g475.s
                  refine q_ret w473 p474 e_cB hm476 ?_
                  intro r484 v485 S477 H478 s479 w480 p481 g483 rr486 hm482
                  cases run_of_pure hm482
                  exact rt115 _ _ _ rfl ⟨S477, w480.g, p481, rr486⟩
                · intro S487 H488 s489 w490 p491 g492 hm493
                  have rknown10 := Mo.mo g492.s rknown10
                  have rparting148 := Mo.mo g492.s rparting148
                  have rshare168 := Mo.mo g492.s rshare168
                  have roften198 := Mo.mo g492.s roften198
                  have rtold208 := Mo.mo g492.s rtold208
                  have rnamed228 := Mo.mo g492.s rnamed228
                  have rparts286 := Mo.mo g492.s rparts286
                  have rdivisors442 := Mo.mo g492.s rdivisors442
                  have rrich459 := Mo.mo g492.s rrich459
                  have rdue469 := Mo.mo g492.s rdue469
                  have eb108 := eb108.tr g492.s
                  have ex116 := ex116.tr g492.s
                  refine nx_done ?_
                  refine q_if w490 p491 (t_Test (e_neW (c_repr (Ev.eta (e_call (E := E0) (fm := fm_is_first_one) (R := rB) (a_one (e_var (R := rI) rfl rfl)))) d_B) (c_repr (e_eqQ (q_L (qs_all q_I)) (by decide) (Ev.Q (e_var rfl rrich459) (d_L (ds_all d_I))) (EvR.Q (EvL.rd (l_lstL (a_consL (e_var (R := rI) rfl rfl) (a_nilL (R := rI))))) (ds_all d_I))) d_B))) hm493 ?_ ?_
                  · intro S494 H495 s496 w497 p498 g499 hm500
                    have rknown10 := Mo.mo g499.s rknown10
                    have rparting148 := Mo.mo g499.s rparting148
                    have rshare168 := Mo.mo g499.s rshare168
                    have roften198 := Mo.mo g499.s roften198
                    have rtold208 := Mo.mo g499.s rtold208
                    have rnamed228 := Mo.mo g499.s rnamed228
                    have rparts286 := Mo.mo g499.s rparts286
                    have rdivisors442 := Mo.mo g499.s rdivisors442
                    have rrich459 := Mo.mo g499.s rrich459
                    have rdue469 := Mo.mo g499.s rdue469
                    have eb108 := eb108.tr g499.s
                    have ex116 := ex116.tr g499.s
                    refine q_ret w497 p498 e_cB hm500 ?_
                    intro r508 v509 S501 H502 s503 w504 p505 g507 rr510 hm506
                    cases run_of_pure hm506
                    exact rt115 _ _ _ rfl ⟨S501, w504.g, p505, rr510⟩
                  · intro S511 H512 s513 w514 p515 g516 hm517
                    have rknown10 := Mo.mo g516.s rknown10
                    have rparting148 := Mo.mo g516.s rparting148
                    have rshare168 := Mo.mo g516.s rshare168
                    have roften198 := Mo.mo g516.s roften198
                    have rtold208 := Mo.mo g516.s rtold208
                    have rnamed228 := Mo.mo g516.s rnamed228
                    have rparts286 := Mo.mo g516.s rparts286
                    have rdivisors442 := Mo.mo g516.s rdivisors442
                    have rrich459 := Mo.mo g516.s rrich459
                    have rdue469 := Mo.mo g516.s rdue469
                    have eb108 := eb108.tr g516.s
                    have ex116 := ex116.tr g516.s
                    refine nx_done ?_
                    refine par_go ?_
                    refine x_ev w514 p515 (Ev.eta (e_call (E := E0) (fm := fm_perfect_exponent) (R := (rO rI)) (a_one (e_var (R := rI) rfl rfl)))) hm517 ?_
                    intro exponent518 vexponent526 S519 H520 s521 w522 p523 g525 rexponent527 hm524
                    have rknown10 := Mo.mo g525.s rknown10
                    have rparting148 := Mo.mo g525.s rparting148
                    have rshare168 := Mo.mo g525.s rshare168
                    have roften198 := Mo.mo g525.s roften198
                    have rtold208 := Mo.mo g525.s rtold208
                    have rnamed228 := Mo.mo g525.s rnamed228
                    have rparts286 := Mo.mo g525.s rparts286
                    have rdivisors442 := Mo.mo g525.s rdivisors442
                    have rrich459 := Mo.mo g525.s rrich459
                    have rdue469 := Mo.mo g525.s rdue469
                    have eb108 := eb108.tr g525.s
                    have ex116 := ex116.tr g525.s
                    refine x_ev w522 p523 (Ev.eta (e_call (E := E0) (fm := fm_perfect_paper) (R := (rT K (aCons rS (aOne rI)))) (a_one (e_var (R := rI) rfl rfl)))) hm524 ?_
                    intro paper528 vpaper536 S529 H530 s531 w532 p533 g535 rpaper537 hm534
                    have rknown10 := Mo.mo g535.s rknown10
                    have rparting148 := Mo.mo g535.s rparting148
                    have rshare168 := Mo.mo g535.s rshare168
                    have roften198 := Mo.mo g535.s roften198
                    have rtold208 := Mo.mo g535.s rtold208
                    have rnamed228 := Mo.mo g535.s rnamed228
                    have rparts286 := Mo.mo g535.s rparts286
                    have rdivisors442 := Mo.mo g535.s rdivisors442
                    have rrich459 := Mo.mo g535.s rrich459
                    have rdue469 := Mo.mo g535.s rdue469
                    have rexponent527 := Mo.mo g535.s rexponent527
                    have eb108 := eb108.tr g535.s
                    have ex116 := ex116.tr g535.s
                    refine par_end [some v_script, some (.ref i.a), some vknown9, some (.int x13), some (.int number129), some vparting147, some (.int total149), some (.str kind179), some voften197, some vtold207, some vnamed227, some vparts285, some vdivisors441, some vrich458, some vdue468, some vshare167, some (.int excess169), some (.int st312.1), some (.int st312.2), xa376, xb377, some vexponent526, some vpaper536, xreach103, none, xp104, xk105] rfl ?_
                    refine q_if w532 p533 (t_orT (t_Test (e_ne (e_notN (e_var rfl rexponent527)) (e_eq (e_var (R := rI) rfl rfl) e_cI))) (t_Test (e_ne (e_eq (e_ixC (n := 0) (mB := fun k => k 0) (A := (aCons rS (aOne rI))) (R := rS) (f := fun a => a.1) (e_var rfl rpaper537) rfl (fun a vs S h => by obtain ⟨_, _, rfl, h0, ⟨_, rfl, h1⟩⟩ := h; exact ⟨_, rfl, h0⟩)) e_cS) (e_eq (e_var (R := rI) rfl rfl) e_cI)))) hm534 ?_ ?_
                    · intro S538 H539 s540 w541 p542 g543 hm544
                      have rknown10 := Mo.mo g543.s rknown10
                      have rparting148 := Mo.mo g543.s rparting148
                      have rshare168 := Mo.mo g543.s rshare168
                      have roften198 := Mo.mo g543.s roften198
                      have rtold208 := Mo.mo g543.s rtold208
                      have rnamed228 := Mo.mo g543.s rnamed228
                      have rparts286 := Mo.mo g543.s rparts286
                      have rdivisors442 := Mo.mo g543.s rdivisors442
                      have rrich459 := Mo.mo g543.s rrich459
                      have rdue469 := Mo.mo g543.s rdue469
                      have rexponent527 := Mo.mo g543.s rexponent527
                      have rpaper537 := Mo.mo g543.s rpaper537
                      have eb108 := eb108.tr g543.s
                      have ex116 := ex116.tr g543.s
                      refine q_ret w541 p542 e_cB hm544 ?_
                      intro r552 v553 S545 H546 s547 w548 p549 g551 rr554 hm550
                      cases run_of_pure hm550
                      exact rt115 _ _ _ rfl ⟨S545, w548.g, p549, rr554⟩
                    · intro S555 H556 s557 w558 p559 g560 hm561
                      have rknown10 := Mo.mo g560.s rknown10
                      have rparting148 := Mo.mo g560.s rparting148
                      have rshare168 := Mo.mo g560.s rshare168
                      have roften198 := Mo.mo g560.s roften198
                      have rtold208 := Mo.mo g560.s rtold208
                      have rnamed228 := Mo.mo g560.s rnamed228
                      have rparts286 := Mo.mo g560.s rparts286
                      have rdivisors442 := Mo.mo g560.s rdivisors442
                      have rrich459 := Mo.mo g560.s rrich459
                      have rdue469 := Mo.mo g560.s rdue469
                      have rexponent527 := Mo.mo g560.s rexponent527
                      have rpaper537 := Mo.mo g560.s rpaper537
                      have eb108 := eb108.tr g560.s
                      have ex116 := ex116.tr g560.s
                      refine nx_done ?_
                      refine q_if w558 p559 (t_Test (e_notN (Ev.eta (e_call (E := E0) (fm := fm_perfect_paper_error) (R := (rO rS)) (a_cons (e_var (R := rI) rfl rfl) (a_one (e_var rfl rpaper537))))))) hm561 ?_ ?_
                      · intro S562 H563 s564 w565 p566 g567 hm568
                        have rknown10 := Mo.mo g567.s rknown10
                        have rparting148 := Mo.mo g567.s rparting148
                        have rshare168 := Mo.mo g567.s rshare168
                        have roften198 := Mo.mo g567.s roften198
                        have rtold208 := Mo.mo g567.s rtold208
                        have rnamed228 := Mo.mo g567.s rnamed228
                        have rparts286 := Mo.mo g567.s rparts286
                        have rdivisors442 := Mo.mo g567.s rdivisors442
                        have rrich459 := Mo.mo g567.s rrich459
                        have rdue469 := Mo.mo g567.s rdue469
                        have rexponent527 := Mo.mo g567.s rexponent527
                        have rpaper537 := Mo.mo g567.s rpaper537
                        have eb108 := eb108.tr g567.s
                        have ex116 := ex116.tr g567.s
                        refine q_ret w565 p566 e_cB hm568 ?_
                        intro r576 v577 S569 H570 s571 w572 p573 g575 rr578 hm574
                        cases run_of_pure hm574
                        exact rt115 _ _ _ rfl ⟨S569, w572.g, p573, rr578⟩
                      · intro S579 H580 s581 w582 p583 g584 hm585
                        have rknown10 := Mo.mo g584.s rknown10
                        have rparting148 := Mo.mo g584.s rparting148
                        have rshare168 := Mo.mo g584.s rshare168
                        have roften198 := Mo.mo g584.s roften198
                        have rtold208 := Mo.mo g584.s rtold208
                        have rnamed228 := Mo.mo g584.s rnamed228
                        have rparts286 := Mo.mo g584.s rparts286
                        have rdivisors442 := Mo.mo g584.s rdivisors442
                        have rrich459 := Mo.mo g584.s rrich459
                        have rdue469 := Mo.mo g584.s rdue469
                        have rexponent527 := Mo.mo g584.s rexponent527
                        have rpaper537 := Mo.mo g584.s rpaper537
                        have eb108 := eb108.tr g584.s
                        have ex116 := ex116.tr g584.s
                        refine nx_done ?_
                        refine q_if w582 p583 (t_and (t_Test (e_notN (e_var rfl rexponent527))) (t_Test (e_ne (Ev.eta (e_call (E := E0) (fm := fm_even_perfect) (R := rI) (a_one (Ev.unO (e_var rfl rexponent527))))) (e_var (R := rI) rfl rfl)))) hm585 ?_ ?_
                        · intro S586 H587 s588 w589 p590 g591 hm592
                          have rknown10 := Mo.mo g591.s rknown10
                          have rparting148 := Mo.mo g591.s rparting148
                          have rshare168 := Mo.mo g591.s rshare168
                          have roften198 := Mo.mo g591.s roften198
                          have rtold208 := Mo.mo g591.s rtold208
                          have rnamed228 := Mo.mo g591.s rnamed228
                          have rparts286 := Mo.mo g591.s rparts286
                          have rdivisors442 := Mo.mo g591.s rdivisors442
                          have rrich459 := Mo.mo g591.s rrich459
                          have rdue469 := Mo.mo g591.s rdue469
                          have rexponent527 := Mo.mo g591.s rexponent527
                          have rpaper537 := Mo.mo g591.s rpaper537
                          have eb108 := eb108.tr g591.s
                          have ex116 := ex116.tr g591.s
                          refine q_ret w589 p590 e_cB hm592 ?_
                          intro r600 v601 S593 H594 s595 w596 p597 g599 rr602 hm598
                          cases run_of_pure hm598
                          exact rt115 _ _ _ rfl ⟨S593, w596.g, p597, rr602⟩
                        · intro S603 H604 s605 w606 p607 g608 hm609
                          have rknown10 := Mo.mo g608.s rknown10
                          have rparting148 := Mo.mo g608.s rparting148
                          have rshare168 := Mo.mo g608.s rshare168
                          have roften198 := Mo.mo g608.s roften198
                          have rtold208 := Mo.mo g608.s rtold208
                          have rnamed228 := Mo.mo g608.s rnamed228
                          have rparts286 := Mo.mo g608.s rparts286
                          have rdivisors442 := Mo.mo g608.s rdivisors442
                          have rrich459 := Mo.mo g608.s rrich459
                          have rdue469 := Mo.mo g608.s rdue469
                          have rexponent527 := Mo.mo g608.s rexponent527
                          have rpaper537 := Mo.mo g608.s rpaper537
                          have eb108 := eb108.tr g608.s
                          have ex116 := ex116.tr g608.s
                          refine nx_done ?_
                          refine q_if w606 p607 (t_Test (e_eq (e_mod (e_var (R := rI) rfl rfl) e_cI) e_cI)) hm609 ?_ ?_
                          · intro S610 H611 s612 w613 p614 g615 hm616
                            have rknown10 := Mo.mo g615.s rknown10
                            have rparting148 := Mo.mo g615.s rparting148
                            have rshare168 := Mo.mo g615.s rshare168
                            have roften198 := Mo.mo g615.s roften198
                            have rtold208 := Mo.mo g615.s rtold208
                            have rnamed228 := Mo.mo g615.s rnamed228
                            have rparts286 := Mo.mo g615.s rparts286
                            have rdivisors442 := Mo.mo g615.s rdivisors442
                            have rrich459 := Mo.mo g615.s rrich459
                            have rdue469 := Mo.mo g615.s rdue469
                            have rexponent527 := Mo.mo g615.s rexponent527
                            have rpaper537 := Mo.mo g615.s rpaper537
                            have eb108 := eb108.tr g615.s
                            have ex116 := ex116.tr g615.s
                            refine tup2_go ?_
                            refine x_ev w613 p614 e_cI hm616 ?_
                            intro above617 vabove625 S618 H619 s620 w621 p622 g624 rabove626 hm623
                            cases (show vabove625 = .int above617 from rabove626)
                            have rknown10 := Mo.mo g624.s rknown10
                            have rparting148 := Mo.mo g624.s rparting148
                            have rshare168 := Mo.mo g624.s rshare168
                            have roften198 := Mo.mo g624.s roften198
                            have rtold208 := Mo.mo g624.s rtold208
                            have rnamed228 := Mo.mo g624.s rnamed228
                            have rparts286 := Mo.mo g624.s rparts286
                            have rdivisors442 := Mo.mo g624.s rdivisors442
                            have rrich459 := Mo.mo g624.s rrich459
                            have rdue469 := Mo.mo g624.s rdue469
                            have rexponent527 := Mo.mo g624.s rexponent527
                            have rpaper537 := Mo.mo g624.s rpaper537
                            have eb108 := eb108.tr g624.s
                            have ex116 := ex116.tr g624.s
                            refine x_ev w621 p622 e_cI hm623 ?_
                            intro below627 vbelow635 S628 H629 s630 w631 p632 g634 rbelow636 hm633
                            cases (show vbelow635 = .int below627 from rbelow636)
                            have rknown10 := Mo.mo g634.s rknown10
                            have rparting148 := Mo.mo g634.s rparting148
                            have rshare168 := Mo.mo g634.s rshare168
                            have roften198 := Mo.mo g634.s roften198
                            have rtold208 := Mo.mo g634.s rtold208
                            have rnamed228 := Mo.mo g634.s rnamed228
                            have rparts286 := Mo.mo g634.s rparts286
                            have rdivisors442 := Mo.mo g634.s rdivisors442
                            have rrich459 := Mo.mo g634.s rrich459
                            have rdue469 := Mo.mo g634.s rdue469
                            have rexponent527 := Mo.mo g634.s rexponent527
                            have rpaper537 := Mo.mo g634.s rpaper537
                            have eb108 := eb108.tr g634.s
                            have ex116 := ex116.tr g634.s
                            refine tup_end (is := [17, 18]) [some v_script, some (.ref i.a), some vknown9, some (.int x13), some (.int number129), some vparting147, some (.int total149), some (.str kind179), some voften197, some vtold207, some vnamed227, some vparts285, some vdivisors441, some vrich458, some vdue468, some vshare167, some (.int excess169), some (.int above617), some (.int below627), xa376, xb377, some vexponent526, some vpaper536, xreach103, none, xp104, xk105] w631 p632 rfl (by simp) rfl ?_
                            intro S637 H638 w639 p640 g641
                            have rknown10 := Mo.mo g641.s rknown10
                            have rparting148 := Mo.mo g641.s rparting148
                            have rshare168 := Mo.mo g641.s rshare168
                            have roften198 := Mo.mo g641.s roften198
                            have rtold208 := Mo.mo g641.s rtold208
                            have rnamed228 := Mo.mo g641.s rnamed228
                            have rparts286 := Mo.mo g641.s rparts286
                            have rdivisors442 := Mo.mo g641.s rdivisors442
                            have rrich459 := Mo.mo g641.s rrich459
                            have rdue469 := Mo.mo g641.s rdue469
                            have rexponent527 := Mo.mo g641.s rexponent527
                            have rpaper537 := Mo.mo g641.s rpaper537
                            have eb108 := eb108.tr g641.s
                            have ex116 := ex116.tr g641.s
                            refine q_for (p := (potPt i)) w639 p640 (i_T (e_var rfl rparting148)) (g_tp (gq_cons (g_nm (R := rI)) (gq_one (g_nm (R := rI))))) hm633 (fun Sb643 st642 σ S' H' s' => Ex Sb643 S' ∧ (∃ (xp_ : Option V) (xk_ : Option V), σ = [some v_script, some (.ref i.a), some vknown9, some (.int x13), some (.int number129), some vparting147, some (.int total149), some (.str kind179), some voften197, some vtold207, some vnamed227, some vparts285, some vdivisors441, some vrich458, some vdue468, some vshare167, some (.int excess169), some (.int st642.1), some (.int st642.2), xa376, xb377, some vexponent526, some vpaper536, xreach103, none, xp_, xk_] ∧ Wd (potPt i) S0 H0 S' H' [] ∧ PotAt (potPt i) s' S' H' ∧ Ex S637 S')) ?_ ?_ ?_ ?_ ?_
                            · intro S645 H646 s647 w648 p649 g650
                              have rknown10 := Mo.mo g650.s rknown10
                              have rparting148 := Mo.mo g650.s rparting148
                              have rshare168 := Mo.mo g650.s rshare168
                              have roften198 := Mo.mo g650.s roften198
                              have rtold208 := Mo.mo g650.s rtold208
                              have rnamed228 := Mo.mo g650.s rnamed228
                              have rparts286 := Mo.mo g650.s rparts286
                              have rdivisors442 := Mo.mo g650.s rdivisors442
                              have rrich459 := Mo.mo g650.s rrich459
                              have rdue469 := Mo.mo g650.s rdue469
                              have rexponent527 := Mo.mo g650.s rexponent527
                              have rpaper537 := Mo.mo g650.s rpaper537
                              have eb108 := eb108.tr g650.s
                              have ex116 := ex116.tr g650.s
                              exact ⟨Ex.rf, ⟨_, _, rfl, w648, p649, g650.s⟩⟩
                            · rintro Sb643 st642 _ S656 H657 s658 ⟨ex659, ⟨xp651, xk652, rfl, w653, p654, eb655⟩⟩
                              exact ⟨ex659, w653.i, p654, ownOk0⟩
                            · rintro Sb643 st642 _ S665 H666 s667 S668 H669 ⟨ex671, ⟨xp660, xk661, rfl, w662, p663, eb664⟩⟩ g670
                              exact ⟨ex671.tr g670.s, _, _, rfl, w662.go (Gm.up g670), PotAt.go p663 g670, eb664.tr g670.s⟩
                            · rintro Sb643 x644 st642 _ σ685 S677 H678 s679 st642_ s2_ D_ ⟨ex684, ⟨xp672, xk673, rfl, w674, p675, eb676⟩⟩ hp hm680 nx681
                              obtain ⟨_, ⟨_, rfl, rfl⟩, ⟨_, rfl, rfl⟩⟩ := hp
                              have rknown10 := Mo.mo eb676 rknown10
                              have rparting148 := Mo.mo eb676 rparting148
                              have rshare168 := Mo.mo eb676 rshare168
                              have roften198 := Mo.mo eb676 roften198
                              have rtold208 := Mo.mo eb676 rtold208
                              have rnamed228 := Mo.mo eb676 rnamed228
                              have rparts286 := Mo.mo eb676 rparts286
                              have rdivisors442 := Mo.mo eb676 rdivisors442
                              have rrich459 := Mo.mo eb676 rrich459
                              have rdue469 := Mo.mo eb676 rdue469
                              have rexponent527 := Mo.mo eb676 rexponent527
                              have rpaper537 := Mo.mo eb676 rpaper537
                              have eb108 := eb108.tr eb676
                              have ex116 := ex116.tr eb676
                              refine par_go ?_
                              refine x_ev w674 p675 (e_mul (e_var (R := rI) rfl rfl) (e_var (R := rI) rfl rfl)) hm680 ?_
                              intro above686 vabove694 S687 H688 s689 w690 p691 g693 rabove695 hm692
                              cases (show vabove694 = .int above686 from rabove695)
                              have rknown10 := Mo.mo g693.s rknown10
                              have rparting148 := Mo.mo g693.s rparting148
                              have rshare168 := Mo.mo g693.s rshare168
                              have roften198 := Mo.mo g693.s roften198
                              have rtold208 := Mo.mo g693.s rtold208
                              have rnamed228 := Mo.mo g693.s rnamed228
                              have rparts286 := Mo.mo g693.s rparts286
                              have rdivisors442 := Mo.mo g693.s rdivisors442
                              have rrich459 := Mo.mo g693.s rrich459
                              have rdue469 := Mo.mo g693.s rdue469
                              have rexponent527 := Mo.mo g693.s rexponent527
                              have rpaper537 := Mo.mo g693.s rpaper537
                              have eb108 := eb108.tr g693.s
                              have ex116 := ex116.tr g693.s
                              have eb676 := eb676.tr g693.s
                              have ex684 := ex684.tr g693.s
                              refine x_ev w690 p691 (e_mul (e_var (R := rI) rfl rfl) (e_sub (e_var (R := rI) rfl rfl) e_cI)) hm692 ?_
                              intro below696 vbelow704 S697 H698 s699 w700 p701 g703 rbelow705 hm702
                              cases (show vbelow704 = .int below696 from rbelow705)
                              have rknown10 := Mo.mo g703.s rknown10
                              have rparting148 := Mo.mo g703.s rparting148
                              have rshare168 := Mo.mo g703.s rshare168
                              have roften198 := Mo.mo g703.s roften198
                              have rtold208 := Mo.mo g703.s rtold208
                              have rnamed228 := Mo.mo g703.s rnamed228
                              have rparts286 := Mo.mo g703.s rparts286
                              have rdivisors442 := Mo.mo g703.s rdivisors442
                              have rrich459 := Mo.mo g703.s rrich459
                              have rdue469 := Mo.mo g703.s rdue469
                              have rexponent527 := Mo.mo g703.s rexponent527
                              have rpaper537 := Mo.mo g703.s rpaper537
                              have eb108 := eb108.tr g703.s
                              have ex116 := ex116.tr g703.s
                              have eb676 := eb676.tr g703.s
                              have ex684 := ex684.tr g703.s
                              refine par_end [some v_script, some (.ref i.a), some vknown9, some (.int x13), some (.int number129), some vparting147, some (.int total149), some (.str kind179), some voften197, some vtold207, some vnamed227, some vparts285, some vdivisors441, some vrich458, some vdue468, some vshare167, some (.int excess169), some (.int above686), some (.int below696), xa376, xb377, some vexponent526, some vpaper536, xreach103, none, some (.int x644.1), some (.int x644.2)] rfl ?_
                              cases run_of_pure hm702
                              exact (nx681 _ _ _ ⟨ex684, ⟨_, _, rfl, w700, p701, eb676⟩⟩).1
                            · rintro Sb643 st642 _ S711 H712 s713 ⟨_, ⟨xp706, xk707, rfl, w708, p709, eb710⟩⟩ hm714
                              have rknown10 := Mo.mo eb710 rknown10
                              have rparting148 := Mo.mo eb710 rparting148
                              have rshare168 := Mo.mo eb710 rshare168
                              have roften198 := Mo.mo eb710 roften198
                              have rtold208 := Mo.mo eb710 rtold208
                              have rnamed228 := Mo.mo eb710 rnamed228
                              have rparts286 := Mo.mo eb710 rparts286
                              have rdivisors442 := Mo.mo eb710 rdivisors442
                              have rrich459 := Mo.mo eb710 rrich459
                              have rdue469 := Mo.mo eb710 rdue469
                              have rexponent527 := Mo.mo eb710 rexponent527
                              have rpaper537 := Mo.mo eb710 rpaper537
                              have eb108 := eb108.tr eb710
                              have ex116 := ex116.tr eb710
                              refine q_set (fun v => [some v_script, some (.ref i.a), some vknown9, some (.int x13), some (.int number129), some vparting147, some (.int total149), some (.str kind179), some voften197, some vtold207, some vnamed227, some vparts285, some vdivisors441, some vrich458, some vdue468, some vshare167, some (.int excess169), some (.int st642.1), some (.int st642.2), xa376, xb377, some vexponent526, some vpaper536, some v, none, xp706, xk707]) (fun _ => rfl) w708 p709 (Ev.eta (e_call (E := E0) (fm := fm__law_made) (R := (rT K (aCons rI (aOne rI)))) (a_cons (e_var (R := rI) rfl rfl) (a_one (e_var (R := rI) rfl rfl))))) hm714 ?_
                              intro reach715 vreach723 S716 H717 s718 w719 p720 g722 rreach724 hm721
                              have rknown10 := Mo.mo g722.s rknown10
                              have rparting148 := Mo.mo g722.s rparting148
                              have rshare168 := Mo.mo g722.s rshare168
                              have roften198 := Mo.mo g722.s roften198
                              have rtold208 := Mo.mo g722.s rtold208
                              have rnamed228 := Mo.mo g722.s rnamed228
                              have rparts286 := Mo.mo g722.s rparts286
                              have rdivisors442 := Mo.mo g722.s rdivisors442
                              have rrich459 := Mo.mo g722.s rrich459
                              have rdue469 := Mo.mo g722.s rdue469
                              have rexponent527 := Mo.mo g722.s rexponent527
                              have rpaper537 := Mo.mo g722.s rpaper537
                              have eb108 := eb108.tr g722.s
                              have ex116 := ex116.tr g722.s
                              refine q_if w719 p720 (t_or (t_Test (e_neQ (q_T (qs_cons q_I (qs_one q_I))) (by decide) (Ev.Q (Ev.eta (e_call (E := E0) (fm := fm_reach_of) (R := (rT K (aCons rI (aOne rI)))) (a_one (e_var (R := rI) rfl rfl)))) (d_T (ds_cons d_I (ds_one d_I)))) (Ev.Q (e_var rfl rreach724) (d_T (ds_cons d_I (ds_one d_I)))))) (t_and (t_Test (e_isN (Ev.eta (e_call (E := E0) (fm := fm_odd_bar) (R := (rO (rU rS (rU (rT K (aCons rS (aOne rI))) (rT K (aCons rS (aOne (rT K (aCons rI (aOne rI)))))))))) (a_one (e_var (R := rI) rfl rfl)))))) (t_Test (e_le (e_ixC (n := 0) (mB := fun k => k 0) (A := (aCons rI (aOne rI))) (R := rI) (f := fun a => a.1) (e_var rfl rreach724) rfl (fun a vs S h => by obtain ⟨_, _, rfl, h0, ⟨_, rfl, h1⟩⟩ := h; exact ⟨_, rfl, h0⟩)) (e_mul e_cI (e_ixC (n := 1) (mB := fun k => k 1) (A := (aCons rI (aOne rI))) (R := rI) (f := fun a => a.2) (e_var rfl rreach724) rfl (fun a vs S h => by obtain ⟨_, _, rfl, h0, ⟨_, rfl, h1⟩⟩ := h; exact ⟨_, rfl, h1⟩))))))) hm721 ?_ ?_
                              · intro S725 H726 s727 w728 p729 g730 hm731
                                have rknown10 := Mo.mo g730.s rknown10
                                have rparting148 := Mo.mo g730.s rparting148
                                have rshare168 := Mo.mo g730.s rshare168
                                have roften198 := Mo.mo g730.s roften198
                                have rtold208 := Mo.mo g730.s rtold208
                                have rnamed228 := Mo.mo g730.s rnamed228
                                have rparts286 := Mo.mo g730.s rparts286
                                have rdivisors442 := Mo.mo g730.s rdivisors442
                                have rrich459 := Mo.mo g730.s rrich459
                                have rdue469 := Mo.mo g730.s rdue469
                                have rexponent527 := Mo.mo g730.s rexponent527
                                have rpaper537 := Mo.mo g730.s rpaper537
                                have rreach724 := Mo.mo g730.s rreach724
                                have eb108 := eb108.tr g730.s
                                have ex116 := ex116.tr g730.s
                                refine q_ret w728 p729 e_cB hm731 ?_
                                intro r739 v740 S732 H733 s734 w735 p736 g738 rr741 hm737
                                cases run_of_pure hm737
                                exact rt115 _ _ _ rfl ⟨S732, w735.g, p736, rr741⟩
                              · intro S742 H743 s744 w745 p746 g747 hm748
                                have rknown10 := Mo.mo g747.s rknown10
                                have rparting148 := Mo.mo g747.s rparting148
                                have rshare168 := Mo.mo g747.s rshare168
                                have roften198 := Mo.mo g747.s roften198
                                have rtold208 := Mo.mo g747.s rtold208
                                have rnamed228 := Mo.mo g747.s rnamed228
                                have rparts286 := Mo.mo g747.s rparts286
                                have rdivisors442 := Mo.mo g747.s rdivisors442
                                have rrich459 := Mo.mo g747.s rrich459
                                have rdue469 := Mo.mo g747.s rdue469
                                have rexponent527 := Mo.mo g747.s rexponent527
                                have rpaper537 := Mo.mo g747.s rpaper537
                                have rreach724 := Mo.mo g747.s rreach724
                                have eb108 := eb108.tr g747.s
                                have ex116 := ex116.tr g747.s
                                refine nx_done ?_
                                refine q_if w745 p746 (t_and (t_Test (e_gt (e_var (R := rI) rfl rfl) e_cI)) (t_Test (e_ge (e_mul (e_var (R := rI) rfl rfl) (e_ixC (n := 1) (mB := fun k => k 1) (A := (aCons rI (aOne rI))) (R := rI) (f := fun a => a.2) (e_var rfl rreach724) rfl (fun a vs S h => by obtain ⟨_, _, rfl, h0, ⟨_, rfl, h1⟩⟩ := h; exact ⟨_, rfl, h1⟩))) (e_mul (e_var (R := rI) rfl rfl) (e_ixC (n := 0) (mB := fun k => k 0) (A := (aCons rI (aOne rI))) (R := rI) (f := fun a => a.1) (e_var rfl rreach724) rfl (fun a vs S h => by obtain ⟨_, _, rfl, h0, ⟨_, rfl, h1⟩⟩ := h; exact ⟨_, rfl, h0⟩)))))) hm748 ?_ ?_
                                · intro S749 H750 s751 w752 p753 g754 hm755
                                  have rknown10 := Mo.mo g754.s rknown10
                                  have rparting148 := Mo.mo g754.s rparting148
                                  have rshare168 := Mo.mo g754.s rshare168
                                  have roften198 := Mo.mo g754.s roften198
                                  have rtold208 := Mo.mo g754.s rtold208
                                  have rnamed228 := Mo.mo g754.s rnamed228
                                  have rparts286 := Mo.mo g754.s rparts286
                                  have rdivisors442 := Mo.mo g754.s rdivisors442
                                  have rrich459 := Mo.mo g754.s rrich459
                                  have rdue469 := Mo.mo g754.s rdue469
                                  have rexponent527 := Mo.mo g754.s rexponent527
                                  have rpaper537 := Mo.mo g754.s rpaper537
                                  have rreach724 := Mo.mo g754.s rreach724
                                  have eb108 := eb108.tr g754.s
                                  have ex116 := ex116.tr g754.s
                                  refine q_ret w752 p753 e_cB hm755 ?_
                                  intro r763 v764 S756 H757 s758 w759 p760 g762 rr765 hm761
                                  cases run_of_pure hm761
                                  exact rt115 _ _ _ rfl ⟨S756, w759.g, p760, rr765⟩
                                · intro S766 H767 s768 w769 p770 g771 hm772
                                  have rknown10 := Mo.mo g771.s rknown10
                                  have rparting148 := Mo.mo g771.s rparting148
                                  have rshare168 := Mo.mo g771.s rshare168
                                  have roften198 := Mo.mo g771.s roften198
                                  have rtold208 := Mo.mo g771.s rtold208
                                  have rnamed228 := Mo.mo g771.s rnamed228
                                  have rparts286 := Mo.mo g771.s rparts286
                                  have rdivisors442 := Mo.mo g771.s rdivisors442
                                  have rrich459 := Mo.mo g771.s rrich459
                                  have rdue469 := Mo.mo g771.s rdue469
                                  have rexponent527 := Mo.mo g771.s rexponent527
                                  have rpaper537 := Mo.mo g771.s rpaper537
                                  have rreach724 := Mo.mo g771.s rreach724
                                  have eb108 := eb108.tr g771.s
                                  have ex116 := ex116.tr g771.s
                                  refine nx_done ?_
                                  refine nx_done ?_
                                  cases run_of_pure hm772
                                  exact (nx113 _ _ _ _ rfl ⟨ex116, ⟨_, _, _, _, _, _, _, _, _, _, _, _, _, _, _, _, _, _, _, _, _, _, _, rfl, w769, p770, eb108⟩⟩).1
                          · intro S779 H780 s781 w782 p783 g784 hm785
                            have rknown10 := Mo.mo g784.s rknown10
                            have rparting148 := Mo.mo g784.s rparting148
                            have rshare168 := Mo.mo g784.s rshare168
                            have roften198 := Mo.mo g784.s roften198
                            have rtold208 := Mo.mo g784.s rtold208
                            have rnamed228 := Mo.mo g784.s rnamed228
                            have rparts286 := Mo.mo g784.s rparts286
                            have rdivisors442 := Mo.mo g784.s rdivisors442
                            have rrich459 := Mo.mo g784.s rrich459
                            have rdue469 := Mo.mo g784.s rdue469
                            have rexponent527 := Mo.mo g784.s rexponent527
                            have rpaper537 := Mo.mo g784.s rpaper537
                            have eb108 := eb108.tr g784.s
                            have ex116 := ex116.tr g784.s
                            refine nx_done ?_
                            cases run_of_pure hm785
                            exact (nx113 _ _ _ _ rfl ⟨ex116, ⟨_, _, _, _, _, _, _, _, _, _, _, _, _, _, _, _, _, _, _, _, _, _, _, rfl, w782, p783, eb108⟩⟩).1
    · rintro Sb12 st11 _ S855 H856 s857 ⟨_, ⟨xturn829, xnumber830, xparting831, xtotal832, xkind833, xoften834, xtold835, xnamed836, xparts837, xdivisors838, xrich839, xdue840, xshare841, xexcess842, xabove843, xbelow844, xa845, xb846, xexponent847, xpaper848, xreach849, xp850, xk851, rfl, w852, p853, eb854⟩⟩ hm858
      have hm858 := hm858.elim id id
      have rknown10 := Mo.mo eb854 rknown10
      refine q_ret w852 p853 (Ev.eta (e_callP (F := fun i => potPt i) (i := i) (A := fun i => (aOne (rP i))) (E := E0) (fm := fm__law_are_known_right) (R := rB) (a_one (e_var (R := rP i) (a := ()) rfl rfl)))) hm858 ?_
      intro r866 v867 S859 H860 s861 w862 p863 g865 rr868 hm864
      cases run_of_pure hm864
      exact fin _ ⟨S859, w862.g, p863, rr868⟩
    · intro r870 v871 H' s' hr1 hm1
      cases run_of_pure hm1
      exact fin _ hr1
end
end Wk
set_option Elab.async false
set_option maxRecDepth 100000
set_option maxHeartbeats 4000000
set_option linter.all false
/-! P0: numbers: primes, how often they divide, partings -/
namespace Wk
theorem nmod (m p : Nat) : ((m : Int) % (p : Int)) = ((m % p : Nat) : Int) := by push_cast; rfl
theorem ndiv (m p : Nat) : ((m : Int) / (p : Int)) = ((m / p : Nat) : Int) := by push_cast; rfl
theorem mulmod (a b p : Nat) : ((a : Int) * (b : Int)) % (p : Int) = ((a * b % p : Nat) : Int) := by push_cast; rfl
def Pr (n : Nat) : Prop := 2 ≤ n ∧ ∀ d, 2 ≤ d → d < n → n % d ≠ 0
/-- a divisor that is prime -/
theorem pr_div : ∀ n : Nat, 2 ≤ n → ∃ q, Pr q ∧ n % q = 0 := by
  intro n
  induction n using Nat.strongRecOn with
  | _ n ih =>
    intro h2
    by_cases h : Pr n
    · exact ⟨n, h, Nat.mod_self n⟩
    · have : ∃ d, 2 ≤ d ∧ d < n ∧ n % d = 0 := Classical.byContradiction fun hn => h ⟨h2, fun d h1 h3 h4 => hn ⟨d, h1, h3, h4⟩⟩
      obtain ⟨d, h1, h3, h4⟩ := this
      obtain ⟨q, hq, e⟩ := ih d h3 h1
      exact ⟨q, hq, Nat.mod_eq_zero_of_dvd (Nat.dvd_trans (Nat.dvd_of_mod_eq_zero e) (Nat.dvd_of_mod_eq_zero h4))⟩
theorem Pr.pos {p : Nat} (h : Pr p) : 0 < p := by have := h.1; omega
theorem Pr.one {p d : Nat} (h : Pr p) (hd : d ∣ p) : d = 1 ∨ d = p := by
  have h0 : 0 < d := Nat.pos_of_dvd_of_pos hd h.pos
  have h1 : d ≤ p := Nat.le_of_dvd h.pos hd
  by_cases e : d = 1
  · exact .inl e
  · by_cases e2 : d = p
    · exact .inr e2
    · exact absurd (Nat.mod_eq_zero_of_dvd hd) (h.2 d (by omega) (by omega))
theorem Pr.cop {p a : Nat} (h : Pr p) (ha : ¬ p ∣ a) : Nat.Coprime p a := by
  rcases h.one (Nat.gcd_dvd_left p a) with e | e
  · exact e
  · exact absurd (e ▸ Nat.gcd_dvd_right p a) ha
theorem Pr.mul {p a b : Nat} (h : Pr p) (hd : p ∣ a * b) : p ∣ a ∨ p ∣ b := by
  by_cases ha : p ∣ a
  · exact .inl ha
  · exact .inr ((h.cop ha).dvd_of_dvd_mul_left hd)
theorem Pr.pow {p a : Nat} (h : Pr p) : ∀ {k : Nat}, p ∣ a ^ k → p ∣ a
  | 0, hd => by
    rw [Nat.pow_zero] at hd
    have := Nat.le_of_dvd (by decide) hd
    have := h.1
    omega
  | k + 1, hd => by
    rw [Nat.pow_succ] at hd
    rcases h.mul hd with e | e
    · exact h.pow e
    · exact e
/-- two primes, one a divisor of the other's power -/
theorem Pr.eq {p q : Nat} (hp : Pr p) (hq : Pr q) (h : p ∣ q) : p = q := by
  rcases hq.one h with e | e
  · have := hp.1; omega
  · exact e

/-! ### how often -/
def vp (p n : Nat) : Nat := if h : n = 0 ∨ p < 2 ∨ n % p ≠ 0 then 0 else vp p (n / p) + 1
termination_by n
decreasing_by exact Nat.div_lt_self (by omega) (by omega)
theorem vp_no {p n : Nat} (h : n % p ≠ 0) : vp p n = 0 := by rw [vp, dif_pos (.inr (.inr h))]
theorem vp_s {p n : Nat} (hn : 0 < n) (hp : 2 ≤ p) (h : n % p = 0) : vp p n = vp p (n / p) + 1 := by rw [vp, dif_neg (by omega)]
theorem vp_dvd {p : Nat} (hp : 2 ≤ p) : ∀ {n : Nat}, 0 < n → p ^ vp p n ∣ n := by
  intro n
  induction n using Nat.strongRecOn with
  | _ n ih =>
    intro hn
    by_cases h : n % p = 0
    · rw [vp_s hn hp h]
      have hd : n / p * p = n := Nat.div_mul_cancel (Nat.dvd_of_mod_eq_zero h)
      have h0 : 0 < n / p := Nat.div_pos (Nat.le_of_dvd hn (Nat.dvd_of_mod_eq_zero h)) (by omega)
      have := ih (n / p) (Nat.div_lt_self hn (by omega)) h0
      rw [Nat.pow_succ]
      conv => rhs; rw [← hd]
      exact Nat.mul_dvd_mul_right this p
    · rw [vp_no h, Nat.pow_zero]; exact Nat.one_dvd _
theorem vp_eq {p : Nat} (hp : 2 ≤ p) : ∀ {k m : Nat}, m % p ≠ 0 → vp p (p ^ k * m) = k
  | 0, m, h => by rw [Nat.pow_zero, Nat.one_mul, vp_no h]
  | k + 1, m, h => by
    have hm : 0 < m := Nat.pos_of_ne_zero (by rintro rfl; simp at h)
    have e : p ^ (k + 1) * m = p * (p ^ k * m) := by rw [Nat.pow_succ, Nat.mul_comm (p ^ k) p, Nat.mul_assoc]
    rw [e, vp_s (Nat.mul_pos (by omega) (Nat.mul_pos (Nat.pow_pos (by omega)) hm)) hp (Nat.mul_mod_right p _), Nat.mul_div_cancel_left _ (by omega), vp_eq hp h]
theorem vp_rest {p : Nat} (hp : 2 ≤ p) : ∀ {n : Nat}, 0 < n → n / p ^ vp p n % p ≠ 0 := by
  intro n
  induction n using Nat.strongRecOn with
  | _ n ih =>
    intro hn
    by_cases h : n % p = 0
    · rw [vp_s hn hp h, Nat.pow_succ, Nat.mul_comm, ← Nat.div_div_eq_div_mul]
      exact ih (n / p) (Nat.div_lt_self hn (by omega)) (Nat.div_pos (Nat.le_of_dvd hn (Nat.dvd_of_mod_eq_zero h)) (by omega))
    · rw [vp_no h, Nat.pow_zero, Nat.div_one]; exact h
theorem vp_split {p n : Nat} (hp : 2 ≤ p) (hn : 0 < n) : n = p ^ vp p n * (n / p ^ vp p n) := (Nat.mul_div_cancel' (vp_dvd hp hn)).symm
theorem vp_mul {p a b : Nat} (h : Pr p) (ha : 0 < a) (hb : 0 < b) : vp p (a * b) = vp p a + vp p b := by
  have e : a * b = p ^ (vp p a + vp p b) * ((a / p ^ vp p a) * (b / p ^ vp p b)) := by
    conv => lhs; rw [vp_split h.1 ha, vp_split h.1 hb]
    rw [Nat.pow_add]
    simp only [Nat.mul_assoc, Nat.mul_comm, Nat.mul_left_comm]
  conv => lhs; rw [e]
  refine vp_eq h.1 fun z => ?_
  rcases h.mul (Nat.dvd_of_mod_eq_zero z) with y | y
  · exact vp_rest h.1 ha (Nat.mod_eq_zero_of_dvd y)
  · exact vp_rest h.1 hb (Nat.mod_eq_zero_of_dvd y)
theorem vp_one {p : Nat} (hp : 2 ≤ p) : vp p 1 = 0 := vp_no (by rw [Nat.mod_eq_of_lt (by omega)]; decide)
theorem vp_self {p : Nat} (hp : 2 ≤ p) : vp p p = 1 := by
  have := vp_eq (k := 1) (m := 1) hp (by rw [Nat.mod_eq_of_lt (by omega)]; decide)
  rwa [Nat.pow_one, Nat.mul_one] at this
theorem vp_pos {p n : Nat} (hn : 0 < n) (hp : 2 ≤ p) (h : p ∣ n) : 0 < vp p n := by rw [vp_s hn hp (Nat.mod_eq_zero_of_dvd h)]; omega
theorem vp_lt {p n : Nat} (hp : 2 ≤ p) (hn : 0 < n) : vp p n < n := by
  have h1 := Nat.le_of_dvd hn (vp_dvd hp hn)
  have h2 : vp p n < 2 ^ vp p n := Nat.lt_two_pow_self
  have h3 : 2 ^ vp p n ≤ p ^ vp p n := Nat.pow_le_pow_left hp _
  omega

/-! ### partings -/
/-- the ascending list of all primes that divide, with how often -/
structure PF (n : Nat) (l : List (Nat × Nat)) : Prop where
  s : l.Pairwise (fun a b => a.1 < b.1)
  m : ∀ q k, (q, k) ∈ l ↔ Pr q ∧ q ∣ n ∧ k = vp q n
theorem sorted_eq : ∀ {l r : List (Nat × Nat)}, l.Pairwise (fun a b => a.1 < b.1) → r.Pairwise (fun a b => a.1 < b.1) → (∀ x, x ∈ l ↔ x ∈ r) → l = r
  | [], [], _, _, _ => rfl
  | [], y :: r, _, _, h => absurd ((h y).mpr (List.mem_cons_self ..)) (by simp)
  | x :: l, [], _, _, h => absurd ((h x).mp (List.mem_cons_self ..)) (by simp)
  | x :: l, y :: r, h1, h2, h => by
    have a1 := List.pairwise_cons.mp h1
    have a2 := List.pairwise_cons.mp h2
    have e : x = y := by
      rcases List.mem_cons.mp ((h x).mp (List.mem_cons_self ..)) with z | z
      · exact z
      · rcases List.mem_cons.mp ((h y).mpr (List.mem_cons_self ..)) with w | w
        · exact w.symm
        · have b1 := a2.1 x z
          have b2 := a1.1 y w
          omega
    subst e
    congr 1
    refine sorted_eq a1.2 a2.2 fun z => ?_
    constructor
    · intro hz
      rcases List.mem_cons.mp ((h z).mp (List.mem_cons_of_mem _ hz)) with w | w
      · have := a1.1 z hz
        rw [w] at this; omega
      · exact w
    · intro hz
      rcases List.mem_cons.mp ((h z).mpr (List.mem_cons_of_mem _ hz)) with w | w
      · have := a2.1 z hz
        rw [w] at this; omega
      · exact w
theorem PF.uniq {n : Nat} {l r : List (Nat × Nat)} (h : PF n l) (g : PF n r) : l = r := sorted_eq h.s g.s fun ⟨q, k⟩ => (h.m q k).trans (g.m q k).symm
theorem PF.one : PF 1 [] := ⟨List.Pairwise.nil, fun q k => by
  constructor
  · intro h; exact nomatch h
  · rintro ⟨h1, h2, _⟩
    have := Nat.le_of_dvd (by decide) h2
    have := h1.1
    omega⟩
theorem PF.prime {p : Nat} (h : Pr p) : PF p [(p, 1)] := ⟨List.pairwise_singleton .., fun q k => by
  rw [List.mem_singleton]
  constructor
  · rintro e
    cases e
    exact ⟨h, Nat.dvd_refl _, (vp_self h.1).symm⟩
  · rintro ⟨h1, h2, rfl⟩
    have e := h1.eq h h2
    subst e
    rw [vp_self h.1]⟩
/-- no lesser prime divides it -/
def Inv (p n : Nat) : Prop := ∀ q, Pr q → q < p → n % q ≠ 0
theorem inv2 (n : Nat) : Inv 2 n := fun q h hq => by have := h.1; omega
theorem Inv.prime {p n : Nat} (h : Inv p n) (hp : 2 ≤ p) (hd : n % p = 0) : Pr p := by
  obtain ⟨q, hq, e⟩ := pr_div p hp
  have hqp := Nat.le_of_dvd (by omega) (Nat.dvd_of_mod_eq_zero e)
  by_cases z : q = p
  · exact z ▸ hq
  · exact absurd (Nat.mod_eq_zero_of_dvd (Nat.dvd_trans (Nat.dvd_of_mod_eq_zero e) (Nat.dvd_of_mod_eq_zero hd))) (h q hq (by omega))
theorem Inv.no {p n : Nat} (h : Inv p n) (hd : n % p ≠ 0) : Inv (p + 1) n := fun q hq hlt => by
  by_cases z : q = p
  · exact z ▸ hd
  · exact h q hq (by omega)
theorem Inv.skip {p n : Nat} (h : Inv p n) (hp : ¬ Pr p) : Inv (p + 1) n := fun q hq hlt => by
  by_cases z : q = p
  · exact absurd (z ▸ hq) hp
  · exact h q hq (by omega)
theorem Inv.dvd {p n m : Nat} (h : Inv p n) (hd : m ∣ n) : Inv p m := fun q hq hlt e => h q hq hlt (Nat.mod_eq_zero_of_dvd (Nat.dvd_trans (Nat.dvd_of_mod_eq_zero e) hd))
theorem rest_dvd {p n : Nat} (hp : 2 ≤ p) (hn : 0 < n) : n / p ^ vp p n ∣ n := ⟨p ^ vp p n, by rw [Nat.mul_comm]; exact vp_split hp hn⟩
theorem rest_pos {p n : Nat} (hp : 2 ≤ p) (hn : 0 < n) : 0 < n / p ^ vp p n := Nat.pos_of_dvd_of_pos (rest_dvd hp hn) hn
theorem Inv.out {p n : Nat} (h : Inv p n) (hp : 2 ≤ p) (hn : 0 < n) : Inv (p + 1) (n / p ^ vp p n) := (h.dvd (rest_dvd hp hn)).no (vp_rest hp hn)
/-- what is left is a prime -/
theorem Inv.last {p n : Nat} (h : Inv p n) (h1 : 1 < n) (hp : n < p * p) : Pr n := by
  obtain ⟨q, hq, e⟩ := pr_div n h1
  have hqd := Nat.dvd_of_mod_eq_zero e
  obtain ⟨c, hc⟩ := hqd
  by_cases hc1 : c = 1
  · rw [hc, hc1, Nat.mul_one]; exact hq
  · exfalso
    have hc0 : 0 < c := Nat.pos_of_ne_zero (by rintro rfl; omega)
    have hqp : p ≤ q := Nat.le_of_not_lt fun z => h q hq z e
    obtain ⟨r, hr, e2⟩ := pr_div c (by omega)
    have hrp : p ≤ r := Nat.le_of_not_lt fun z => h r hr z (Nat.mod_eq_zero_of_dvd (Nat.dvd_trans (Nat.dvd_of_mod_eq_zero e2) ⟨q, by rw [hc, Nat.mul_comm]⟩))
    have hrc := Nat.le_of_dvd hc0 (Nat.dvd_of_mod_eq_zero e2)
    have : p * p ≤ q * c := Nat.mul_le_mul hqp (by omega)
    omega
theorem PF.cons {p n : Nat} {l : List (Nat × Nat)} (hi : Inv p n) (hp : 2 ≤ p) (hn : 0 < n) (hd : n % p = 0) (h : PF (n / p ^ vp p n) l) : PF n ((p, vp p n) :: l) := by
  have hpr := hi.prime hp hd
  have hr0 := rest_pos hp hn
  have key : ∀ q, Pr q → q ≠ p → vp q (n / p ^ vp p n) = vp q n := fun q hq hne => by
    conv => rhs; rw [vp_split hp hn]
    rw [vp_mul hq (Nat.pow_pos (by omega)) hr0, vp_no (n := p ^ vp p n) (fun e => hne (hq.eq hpr (hq.pow (Nat.dvd_of_mod_eq_zero e)))), Nat.zero_add]
  refine ⟨List.pairwise_cons.mpr ⟨fun ⟨q, k⟩ hm => ?_, h.s⟩, fun q k => ?_⟩
  · obtain ⟨h1, h2, _⟩ := (h.m q k).mp hm
    show p < q
    have := hi.out hp hn
    exact Nat.lt_of_not_le fun z => this q h1 (by omega) (Nat.mod_eq_zero_of_dvd h2)
  · rw [List.mem_cons, h.m]
    constructor
    · rintro (e | ⟨h1, h2, h3⟩)
      · cases e
        exact ⟨hpr, Nat.dvd_of_mod_eq_zero hd, rfl⟩
      · have hne : q ≠ p := by rintro rfl; exact vp_rest hp hn (Nat.mod_eq_zero_of_dvd h2)
        exact ⟨h1, Nat.dvd_trans h2 (rest_dvd hp hn), by rw [h3, key q h1 hne]⟩
    · rintro ⟨h1, h2, h3⟩
      by_cases e : q = p
      · subst e; subst h3; exact .inl rfl
      · refine .inr ⟨h1, ?_, by rw [h3, key q h1 e]⟩
        rw [vp_split hp hn] at h2
        rcases h1.mul h2 with z | z
        · exact absurd (h1.eq hpr (h1.pow z)) e
        · exact z

/-! ### a parting that can be asked -/
def out (p : Nat) : Nat → Nat → Nat × Nat
  | 0, n => (0, n)
  | f + 1, n => if n % p = 0 then ((out p f (n / p)).1 + 1, (out p f (n / p)).2) else (0, n)
theorem out_eq {p : Nat} (hp : 2 ≤ p) : ∀ (f n : Nat), 0 < n → n < 2 ^ f → out p f n = (vp p n, n / p ^ vp p n)
  | 0, n, hn, h => by rw [Nat.pow_zero] at h; omega
  | f + 1, n, hn, h => by
    rw [out]
    by_cases z : n % p = 0
    · have h0 : 0 < n / p := Nat.div_pos (Nat.le_of_dvd hn (Nat.dvd_of_mod_eq_zero z)) (by omega)
      have h1 : n / p < 2 ^ f := by
        have : n / p ≤ n / 2 := Nat.div_le_div_left hp (by decide)
        rw [Nat.pow_succ] at h
        omega
      rw [if_pos z, out_eq hp f (n / p) h0 h1, vp_s hn hp z]
      show (_, _) = (_, _)
      rw [Nat.pow_succ, Nat.mul_comm (p ^ _) p, ← Nat.div_div_eq_div_mul]
    · rw [if_neg z, vp_no z, Nat.pow_zero, Nat.div_one]
def pfc : Nat → Nat → Nat → List (Nat × Nat)
  | 0, _, _ => []
  | f + 1, p, n => if n < p * p then (if n ≤ 1 then [] else [(n, 1)]) else if n % p = 0 then (p, (out p 64 n).1) :: pfc f (p + 1) (out p 64 n).2 else pfc f (p + 1) n
def pf (n : Nat) : List (Nat × Nat) := pfc (n + 1) 2 n
theorem pfc_ok : ∀ (f p n : Nat), 2 ≤ p → 0 < n → n < 2 ^ 64 → n < (p + f) * (p + f) → Inv p n → PF n (pfc (f + 1) p n) := by
  intro f
  induction f with
  | zero =>
    intro p n hp hn h64 hlt hi
    have hlt : n < p * p := by simpa using hlt
    rw [pfc, if_pos hlt]
    by_cases z1 : n ≤ 1
    · rw [if_pos z1, show n = 1 by omega]; exact PF.one
    · rw [if_neg z1]; exact PF.prime (hi.last (by omega) hlt)
  | succ f ih =>
    intro p n hp hn h64 hlt hi
    rw [pfc]
    by_cases z : n < p * p
    · rw [if_pos z]
      by_cases z1 : n ≤ 1
      · rw [if_pos z1, show n = 1 by omega]; exact PF.one
      · rw [if_neg z1]; exact PF.prime (hi.last (by omega) z)
    · rw [if_neg z]
      have e : p + (f + 1) = p + 1 + f := by omega
      rw [e] at hlt
      by_cases y : n % p = 0
      · rw [if_pos y, out_eq hp 64 n hn h64]
        have hr := Nat.le_of_dvd hn (rest_dvd (p := p) hp hn)
        exact PF.cons hi hp hn y (ih (p + 1) _ (by omega) (rest_pos hp hn) (by omega) (by omega) (hi.out hp hn))
      · rw [if_neg y]
        exact ih (p + 1) n (by omega) hn h64 hlt (hi.no y)
theorem pf_ok {n : Nat} (hn : 0 < n) (h : n < 2 ^ 64) : PF n (pf n) := pfc_ok n 2 n (by decide) hn h (by
  have : n ≤ (2 + n) * 1 := by omega
  have : (2 + n) * 1 < (2 + n) * (2 + n) := Nat.mul_lt_mul_of_pos_left (by omega) (by omega)
  omega) (inv2 n)
def prB (n : Nat) : Bool := decide (pf n = [(n, 1)])
theorem prB_iff {n : Nat} (hn : 0 < n) (h : n < 2 ^ 64) : prB n = true ↔ Pr n := by
  unfold prB
  rw [decide_eq_true_iff]
  constructor
  · intro e
    have := (pf_ok hn h).m n 1
    rw [e] at this
    exact (this.mp (List.mem_singleton.mpr rfl)).1
  · intro hp
    exact (pf_ok hn h).uniq (PF.prime hp)
/-! ### what a parting's primes make -/
theorem PF.low {n q k : Nat} {l : List (Nat × Nat)} (h : PF n l) (hn : 0 < n) (hm : (q, k) ∈ l) : 2 ≤ q ∧ q ≤ n ∧ 1 ≤ k ∧ k < n := by
  obtain ⟨h1, h2, h3⟩ := (h.m q k).mp hm
  have a := Nat.le_of_dvd hn h2
  have b := vp_pos hn h1.1 h2
  have c := vp_lt h1.1 hn
  exact ⟨h1.1, a, by omega, by omega⟩
/-- a parting's head and its rest -/
theorem PF.tail {n p k : Nat} {l : List (Nat × Nat)} (h : PF n ((p, k) :: l)) (hn : 0 < n) : Pr p ∧ k = vp p n ∧ n = p ^ k * (n / p ^ k) ∧ PF (n / p ^ k) l ∧ 0 < n / p ^ k ∧ n / p ^ k % p ≠ 0 ∧ 0 < k := by
  obtain ⟨h1, h2, h3⟩ := (h.m p k).mp (List.mem_cons_self ..)
  have hs := List.pairwise_cons.mp h.s
  have hr0 := rest_pos h1.1 hn
  have hpos := vp_pos hn h1.1 h2
  subst h3
  refine ⟨h1, rfl, vp_split h1.1 hn, ⟨hs.2, fun q k => ?_⟩, hr0, vp_rest h1.1 hn, hpos⟩
  have key : ∀ q, Pr q → q ≠ p → vp q (n / p ^ vp p n) = vp q n := fun q hq hne => by
    conv => rhs; rw [vp_split h1.1 hn]
    rw [vp_mul hq (Nat.pow_pos h1.pos) hr0, vp_no (n := p ^ vp p n) (fun e => hne (hq.eq h1 (hq.pow (Nat.dvd_of_mod_eq_zero e)))), Nat.zero_add]
  constructor
  · intro hm
    have hlt := hs.1 _ hm
    obtain ⟨a1, a2, a3⟩ := (h.m q k).mp (List.mem_cons_of_mem _ hm)
    have hne : q ≠ p := by simp at hlt; omega
    refine ⟨a1, ?_, by rw [a3, key q a1 hne]⟩
    rw [vp_split h1.1 hn] at a2
    rcases a1.mul a2 with z | z
    · exact absurd (a1.eq h1 (a1.pow z)) hne
    · exact z
  · rintro ⟨a1, a2, a3⟩
    have hne : q ≠ p := by rintro rfl; exact vp_rest h1.1 hn (Nat.mod_eq_zero_of_dvd a2)
    rcases List.mem_cons.mp ((h.m q k).mpr ⟨a1, Nat.dvd_trans a2 (rest_dvd h1.1 hn), by rw [a3, key q a1 hne]⟩) with z | z
    · cases z; exact absurd rfl hne
    · exact z
def prd (l : List (Nat × Nat)) : Nat := l.foldr (fun y a => y.1 ^ y.2 * a) 1
theorem PF.prd : ∀ {l : List (Nat × Nat)} {n : Nat}, 0 < n → PF n l → prd l = n
  | [], n, hn, h => by
    show 1 = n
    by_cases z : n = 1
    · exact z.symm
    · obtain ⟨q, hq, e⟩ := pr_div n (by omega)
      exact absurd ((h.m q (vp q n)).mpr ⟨hq, Nat.dvd_of_mod_eq_zero e, rfl⟩) (by simp)
  | (p, k) :: l, n, hn, h => by
    obtain ⟨_, _, h3, h4, h5, _⟩ := h.tail hn
    show p ^ k * Wk.prd l = n
    rw [PF.prd h5 h4]
    exact h3.symm
theorem PF.len {n : Nat} {l : List (Nat × Nat)} (hn : 0 < n) (h : PF n l) : 2 ^ l.length ≤ n := by
  rw [← h.prd hn]
  have : ∀ r : List (Nat × Nat), (∀ y ∈ r, 2 ≤ y.1 ∧ 1 ≤ y.2) → 2 ^ r.length ≤ Wk.prd r := by
    intro r
    induction r with
    | nil => intro _; exact Nat.le_refl _
    | cons y r ih =>
      intro hy
      have h1 := hy y (List.mem_cons_self ..)
      have h2 := ih fun z hz => hy z (List.mem_cons_of_mem _ hz)
      show 2 ^ (r.length + 1) ≤ y.1 ^ y.2 * Wk.prd r
      rw [Nat.pow_succ, Nat.mul_comm]
      refine Nat.mul_le_mul ?_ h2
      have : y.1 ^ 1 ≤ y.1 ^ y.2 := Nat.pow_le_pow_right (by omega) h1.2
      rw [Nat.pow_one] at this
      omega
  exact this l fun ⟨q, k⟩ hm => by have := h.low hn hm; exact ⟨this.1, this.2.2.1⟩
end Wk
set_option Elab.async false
set_option maxRecDepth 100000
set_option maxHeartbeats 4000000
set_option linter.all false
/-! P1: powers and what they leave: Euler, orders, strong passes -/
namespace Wk
theorem mod_dvd {a b n : Nat} (h : a % n = b % n) (hb : b ≤ a) : n ∣ a - b := Nat.dvd_of_mod_eq_zero (Nat.sub_mod_eq_zero_of_mod_eq h)
theorem mod_of_dvd {a b n : Nat} (h : n ∣ a - b) (hb : b ≤ a) : a % n = b % n := by
  obtain ⟨c, hc⟩ := h
  have e : a = b + n * c := by omega
  rw [e, Nat.add_mul_mod_self_left]
theorem mul_cong {a b c d n : Nat} (h : a % n = b % n) (g : c % n = d % n) : a * c % n = b * d % n := by rw [Nat.mul_mod, h, g, ← Nat.mul_mod]
theorem pow_cong {a b n : Nat} (h : a % n = b % n) (k : Nat) : a ^ k % n = b ^ k % n := by rw [Nat.pow_mod, h, ← Nat.pow_mod]
/-- one factor is cut -/
theorem cut_cong {x y n : Nat} (hx : Nat.gcd x n = 1) (h : x * y % n = x % n) : y % n = 1 % n := by
  by_cases hy : y = 0
  · subst hy
    rw [Nat.mul_zero, Nat.zero_mod] at h
    have : n ∣ x := Nat.dvd_of_mod_eq_zero h.symm
    have := Nat.gcd_eq_right this
    rw [hx] at this
    rw [← this]
  · have hle : x * 1 ≤ x * y := Nat.mul_le_mul_left x (by omega)
    have h1 : x * y % n = x * 1 % n := by rw [Nat.mul_one]; exact h
    have h2 := mod_dvd h1 hle
    rw [← Nat.mul_sub] at h2
    have hc : Nat.Coprime n x := by rw [Nat.Coprime, Nat.gcd_comm]; exact hx
    exact mod_of_dvd (hc.dvd_of_dvd_mul_left h2) (by omega)

/-! ### arrangements -/
theorem perm_of : ∀ {l r : List Nat}, l.Nodup → r.Nodup → (∀ x ∈ l, x ∈ r) → r.length ≤ l.length → l.Perm r
  | [], r, _, _, _, h => by
    have : r = [] := List.length_eq_zero_iff.mp (by simpa using h)
    rw [this]
  | x :: l, r, h1, h2, h3, h4 => by
    have a := List.nodup_cons.mp h1
    have hx : x ∈ r := h3 x (List.mem_cons_self ..)
    have hp := List.perm_cons_erase hx
    have hl : (r.erase x).length = r.length - 1 := List.length_erase_of_mem hx
    refine (List.Perm.cons x (perm_of a.2 (h2.erase x) (fun y hy => ?_) ?_)).trans hp.symm
    · exact (List.mem_erase_of_ne (by rintro rfl; exact a.1 hy)).mpr (h3 y (List.mem_cons_of_mem _ hy))
    · rw [List.length_cons] at h4; omega
def pro (l : List Nat) : Nat := l.foldr (· * ·) 1
theorem pro_perm {l r : List Nat} (h : l.Perm r) : pro l = pro r := by
  induction h with
  | nil => rfl
  | cons x _ ih => show x * pro _ = x * pro _; rw [ih]
  | swap x y l => show y * (x * pro l) = x * (y * pro l); rw [Nat.mul_left_comm]
  | trans _ _ a b => exact a.trans b
theorem pro_map {a n : Nat} : ∀ l : List Nat, pro (l.map fun x => a * x % n) % n = a ^ l.length * pro l % n
  | [] => by show 1 % n = a ^ 0 * 1 % n; rw [Nat.pow_zero]
  | x :: l => by
    show (a * x % n) * pro (l.map fun x => a * x % n) % n = a ^ (l.length + 1) * (x * pro l) % n
    have h1 : (a * x % n) % n = (a * x) % n := Nat.mod_mod _ _
    rw [mul_cong h1 (pro_map l), Nat.pow_succ]
    congr 1
    simp only [Nat.mul_comm, Nat.mul_left_comm, Nat.mul_assoc]
/-- the rests without a divisor in common -/
def uni (n : Nat) : List Nat := (List.range n).filter fun x => decide (Nat.gcd x n = 1)
theorem mem_uni {n x : Nat} : x ∈ uni n ↔ x < n ∧ Nat.gcd x n = 1 := by
  unfold uni
  rw [List.mem_filter, List.mem_range, decide_eq_true_iff]
theorem uni_nd (n : Nat) : (uni n).Nodup := List.nodup_range.sublist List.filter_sublist
theorem gcd_mod_one {a n : Nat} : Nat.gcd (a % n) n = Nat.gcd a n := by rw [← Nat.gcd_rec, Nat.gcd_comm]
theorem uni_pro (n : Nat) : Nat.gcd (pro (uni n)) n = 1 := by
  have : ∀ l : List Nat, (∀ x ∈ l, Nat.gcd x n = 1) → Nat.gcd (pro l) n = 1 := by
    intro l
    induction l with
    | nil => intro _; exact Nat.gcd_one_left n
    | cons x l ih =>
      intro h
      show Nat.gcd (x * pro l) n = 1
      exact Nat.Coprime.mul_left (h x (List.mem_cons_self ..)) (ih fun y hy => h y (List.mem_cons_of_mem _ hy))
  exact this _ fun x hx => (mem_uni.mp hx).2
theorem cop_cut {a x y n : Nat} (ha : Nat.gcd a n = 1) (hxy : x ≤ y) (h : a * x % n = a * y % n) : x % n = y % n := by
  have h2 := mod_dvd h.symm (Nat.mul_le_mul_left a hxy)
  rw [← Nat.mul_sub] at h2
  have hc : Nat.Coprime n a := by rw [Nat.Coprime, Nat.gcd_comm]; exact ha
  exact (mod_of_dvd (hc.dvd_of_dvd_mul_left h2) hxy).symm
theorem euler {a n : Nat} (hn : 0 < n) (ha : Nat.gcd a n = 1) : a ^ (uni n).length % n = 1 % n := by
  have hp : ((uni n).map fun x => a * x % n).Perm (uni n) := by
    refine perm_of ?_ (uni_nd n) ?_ (by rw [List.length_map]; exact Nat.le_refl _)
    · rw [List.nodup_iff_pairwise_ne, List.pairwise_map]
      refine List.Pairwise.imp_of_mem ?_ (List.nodup_iff_pairwise_ne.mp (uni_nd n))
      intro x y hx hy hne e
      have h1 := (mem_uni.mp hx).1
      have h2 := (mem_uni.mp hy).1
      rcases Nat.le_total x y with z | z
      · have := cop_cut ha z e
        rw [Nat.mod_eq_of_lt h1, Nat.mod_eq_of_lt h2] at this
        exact hne this
      · have := cop_cut ha z e.symm
        rw [Nat.mod_eq_of_lt h1, Nat.mod_eq_of_lt h2] at this
        exact hne this.symm
    · intro x hx
      obtain ⟨y, hy, rfl⟩ := List.mem_map.mp hx
      refine mem_uni.mpr ⟨Nat.mod_lt _ hn, ?_⟩
      rw [gcd_mod_one]
      exact Nat.Coprime.mul_left ha (mem_uni.mp hy).2
  have e := pro_map (a := a) (n := n) (uni n)
  rw [pro_perm hp, Nat.mul_comm] at e
  exact cut_cong (uni_pro n) e.symm
theorem uni_prime {p : Nat} (h : Pr p) : (uni p).length = p - 1 := by
  have e : uni p = (List.range p).filter fun x => decide (x ≠ 0) := by
    unfold uni
    apply List.filter_congr
    intro x hx
    have hx := List.mem_range.mp hx
    by_cases z : x = 0
    · subst z
      have := h.1
      refine decide_eq_decide.mpr ?_
      rw [Nat.gcd_zero_left]
      omega
    · have : Nat.gcd x p = 1 := by
        rw [Nat.gcd_comm]
        exact h.cop fun hd => by have := Nat.le_of_dvd (by omega) hd; omega
      simp [this, z]
  rw [e]
  obtain ⟨q, rfl⟩ : ∃ q, p = q + 1 := ⟨p - 1, by have := h.1; omega⟩
  rw [List.range_succ_eq_map, List.filter_cons_of_neg (by simp), List.filter_eq_self.mpr (by simp)]
  simp
theorem fermat {p a : Nat} (h : Pr p) (ha : ¬ p ∣ a) : a ^ (p - 1) % p = 1 := by
  have := euler h.pos (a := a) (by rw [Nat.gcd_comm]; exact h.cop ha)
  rw [uni_prime h, Nat.mod_eq_of_lt (show 1 < p from h.1)] at this
  exact this

/-! ### orders -/
theorem pow_gcd {a n : Nat} : ∀ (x y : Nat), a ^ x % n = 1 % n → a ^ y % n = 1 % n → a ^ Nat.gcd x y % n = 1 % n := by
  intro x
  induction x using Nat.strongRecOn with
  | _ x ih =>
    intro y hx hy
    by_cases z : x = 0
    · subst z; rw [Nat.gcd_zero_left]; exact hy
    · rw [Nat.gcd_rec]
      refine ih (y % x) (Nat.mod_lt _ (by omega)) x ?_ hx
      have e : a ^ y = (a ^ x) ^ (y / x) * a ^ (y % x) := by rw [← Nat.pow_mul, ← Nat.pow_add, Nat.div_add_mod]
      rw [e, mul_cong (pow_cong hx (y / x)) rfl, Nat.one_pow, Nat.one_mul] at hy
      exact hy
theorem pow_mul_one {a n x : Nat} (h : a ^ x % n = 1 % n) {y : Nat} (hd : x ∣ y) : a ^ y % n = 1 % n := by
  obtain ⟨c, rfl⟩ := hd
  rw [Nat.pow_mul, pow_cong h c, Nat.one_pow]
/-- no lesser one -/
theorem order_dvd {a n K m : Nat} (hK : 0 < K) (h : a ^ K % n = 1 % n) (hp : ∀ q, Pr q → K % q = 0 → a ^ (K / q) % n ≠ 1 % n) (hm : a ^ m % n = 1 % n) : K ∣ m := by
  have hg := pow_gcd K m h hm
  have hd := Nat.gcd_dvd_left K m
  have h0 : 0 < Nat.gcd K m := Nat.pos_of_dvd_of_pos hd hK
  by_cases e : Nat.gcd K m = K
  · exact e ▸ Nat.gcd_dvd_right K m
  · exfalso
    obtain ⟨c, hc⟩ := hd
    generalize Nat.gcd K m = g at *
    have hc2 : 2 ≤ c := by
      rcases c with _ | _ | c
      · omega
      · omega
      · omega
    obtain ⟨q, hq, hqc⟩ := pr_div c hc2
    obtain ⟨d, hd⟩ := Nat.dvd_of_mod_eq_zero hqc
    have hKq : K = q * (g * d) := by rw [hc, hd, Nat.mul_left_comm]
    refine hp q hq (Nat.mod_eq_zero_of_dvd ⟨_, hKq⟩) ?_
    rw [hKq, Nat.mul_div_cancel_left _ hq.pos]
    exact pow_mul_one hg ⟨d, rfl⟩

/-! ### strong passes -/
/-- a passes n strongly, n - 1 being 2 ^ s * d -/
def Strong (n a s d : Nat) : Prop := a ^ d % n = 1 ∨ ∃ i, i < s ∧ a ^ (2 ^ i * d) % n = n - 1
instance (n a s d : Nat) : Decidable (Strong n a s d) := by
  unfold Strong
  have : Decidable (∃ i, i < s ∧ a ^ (2 ^ i * d) % n = n - 1) := decidable_of_iff ((List.range s).any fun i => decide (a ^ (2 ^ i * d) % n = n - 1)) (by simp)
  exact inferInstance
theorem sq_one {p x : Nat} (h : Pr p) (hx : x * x % p = 1) : x % p = 1 ∨ x % p = p - 1 := by
  have h2 := h.1
  have hx0 : 0 < x := Nat.pos_of_ne_zero (by rintro rfl; simp at hx)
  have h1 : 1 ≤ x * x := Nat.mul_pos hx0 hx0
  have hd : p ∣ x * x - 1 := mod_dvd (by rw [hx, Nat.mod_eq_of_lt (by omega)]) h1
  have e : x * x - 1 = (x + 1) * (x - 1) := by
    obtain ⟨y, rfl⟩ : ∃ y, x = y + 1 := ⟨x - 1, by omega⟩
    rw [Nat.add_sub_cancel]
    have : (y + 1) * (y + 1) = (y + 1 + 1) * y + 1 := by
      simp only [Nat.add_mul, Nat.mul_add, Nat.one_mul, Nat.mul_one]; omega
    omega
  rw [e] at hd
  rcases h.mul hd with z | z
  · right
    have := Nat.mod_eq_zero_of_dvd z
    have hlt := Nat.mod_lt x h.pos
    rw [Nat.add_mod, Nat.mod_eq_of_lt (show 1 < p by omega)] at this
    by_cases y : x % p + 1 < p
    · rw [Nat.mod_eq_of_lt y] at this; omega
    · omega
  · left
    rw [mod_of_dvd z hx0, Nat.mod_eq_of_lt (by omega)]
theorem strong_prime {p a s d : Nat} (h : Pr p) (ha : ¬ p ∣ a) (he : p - 1 = 2 ^ s * d) : Strong p a s d := by
  have h2 := h.1
  have key : ∀ j, j ≤ s → a ^ (2 ^ j * d) % p = 1 → Strong p a s d := by
    intro j
    induction j with
    | zero => intro _ h1; exact .inl (by rw [Nat.pow_zero, Nat.one_mul] at h1; exact h1)
    | succ j ih =>
      intro hj h1
      have e : a ^ (2 ^ (j + 1) * d) = a ^ (2 ^ j * d) * a ^ (2 ^ j * d) := by
        rw [← Nat.pow_add, Nat.pow_succ, Nat.mul_comm (2 ^ j) 2, Nat.mul_assoc, Nat.two_mul]
      rw [e] at h1
      rcases sq_one h h1 with z | z
      · exact ih (by omega) z
      · exact .inr ⟨j, by omega, z⟩
  exact key s (Nat.le_refl _) (by rw [← he]; exact fermat h ha)
theorem strong_pass {n a s d : Nat} (hn : 2 ≤ n) (he : n - 1 = 2 ^ s * d) (h : Strong n a s d) : a ^ (n - 1) % n = 1 := by
  rcases h with h | ⟨i, hi, h⟩
  · rw [he, Nat.mul_comm, Nat.pow_mul, pow_cong (b := 1) (by rw [h, Nat.mod_eq_of_lt (by omega)]), Nat.one_pow, Nat.mod_eq_of_lt (by omega)]
  · have e : 2 ^ s * d = 2 ^ i * d * (2 * 2 ^ (s - i - 1)) := by
      have : 2 ^ s = 2 ^ i * (2 * 2 ^ (s - i - 1)) := by
        rw [← Nat.pow_succ', ← Nat.pow_add]; congr 1; omega
      rw [this]
      simp only [Nat.mul_comm, Nat.mul_left_comm, Nat.mul_assoc]
    have hsq : (n - 1) * (n - 1) % n = 1 := by
      obtain ⟨m, rfl⟩ : ∃ m, n = m + 2 := ⟨n - 2, by omega⟩
      have : (m + 2 - 1) * (m + 2 - 1) = 1 + (m + 2) * m := by
        show (m + 1) * (m + 1) = _
        simp only [Nat.add_mul, Nat.mul_add, Nat.one_mul, Nat.mul_one]; omega
      rw [this, Nat.add_mul_mod_self_left, Nat.mod_eq_of_lt (by omega)]
    have h2 : (a ^ (2 ^ i * d)) ^ 2 % n = 1 % n := by
      rw [Nat.pow_two, mul_cong (b := n - 1) (d := n - 1) (by rw [h, Nat.mod_eq_of_lt (by omega)]) (by rw [h, Nat.mod_eq_of_lt (by omega)]), hsq, Nat.mod_eq_of_lt (by omega)]
    rw [he, e, Nat.pow_mul, Nat.pow_mul, pow_cong h2, Nat.one_pow, Nat.mod_eq_of_lt (by omega)]
end Wk
set_option Elab.async false
set_option maxRecDepth 100000
set_option maxHeartbeats 4000000
set_option linter.all false
/-! P2: what the defs of numbers and their partings give -/
namespace Wk
open PySem L2
open PyProof.Rows hiding St
theorem taken_out_ok {p n : Nat} (hp : 2 ≤ p) (hq : p < 10 ^ 40) (hn : 0 < n) (hN : n < 10 ^ 40) : m_taken_out n p = some ((vp p n : Int), ((n / p ^ vp p n : Nat) : Int)) := by
  unfold m_taken_out
  refine tt_eq (tt_bnd.mpr (Tt.then (P' := fun st _ => st = (((n / p ^ vp p n : Nat) : Int), (vp p n : Int))) ?_ ?_))
  · refine Tt.wh (I := fun (st : Int × Int) _ => ∃ m j : Nat, st = ((m : Int), (j : Int)) ∧ 0 < m ∧ m ≤ n ∧ j + vp p m = vp p n ∧ m / p ^ vp p m = n / p ^ vp p n) (nu := fun st => st.1.toNat) ?_ many _ _ ⟨n, 0, rfl, hn, Nat.le_refl _, by omega, rfl⟩ (lt_many (by simpa using hN))
    rintro st s k P ⟨m, j, rfl, h0, hle, h1, h2⟩ hk
    refine tt_grd.mpr ⟨by omega, hk _ _ (fun ht => ?_) (fun ht => ?_)⟩
    · have hd : m % p = 0 := by simp only [decide_eq_true_eq] at ht; omega
      have hdv := Nat.dvd_of_mod_eq_zero hd
      have h3 : 0 < m / p := Nat.div_pos (Nat.le_of_dvd h0 hdv) (by omega)
      have h4 : m / p < m := Nat.div_lt_self h0 (by omega)
      refine tt_bnd.mpr (tt_grd.mpr ⟨dv_nat (by omega) hq, tt_bnd.mpr (tt_pure.mpr ⟨⟨m / p, j + 1, by rw [ndiv]; rfl, h3, by omega, ?_, ?_⟩, ?_⟩)⟩)
      · rw [vp_s h0 hp hd] at h1; omega
      · rw [← h2, vp_s h0 hp hd, Nat.pow_succ, Nat.mul_comm (p ^ _) p, ← Nat.div_div_eq_div_mul]
      · show ((m : Int) / (p : Int)).toNat < (m : Int).toNat
        rw [ndiv]; omega
    · have hd : m % p ≠ 0 := by simp only [decide_eq_false_iff_not] at ht; omega
      rw [vp_no hd] at h1 h2
      show ((m : Int), (j : Int)) = _
      rw [Nat.pow_zero, Nat.div_one] at h2
      rw [← h2, ← h1, Nat.add_zero]
  · rintro st _ rfl
    simp only [tt_bnd, tt_pure]
/-- a power's rest, one loop for all who ask it -/
theorem power_step {j f o m : Nat} (hj : 0 < j) (hm : 0 < m) : (if j % 2 = 1 then f * o % m else f) * (o * o % m) ^ (j / 2) % m = f * o ^ j % m := by
  have key : ∀ g, g * (o * o % m) ^ (j / 2) % m = g * o ^ (2 * (j / 2)) % m := fun g => by
    rw [Nat.mul_mod, ← Nat.pow_mod, ← Nat.mul_mod, Nat.pow_mul, Nat.pow_two]
  rw [key]
  by_cases z : j % 2 = 1
  · rw [if_pos z]
    have : j = 2 * (j / 2) + 1 := by omega
    have e4 : o ^ j = o * o ^ (2 * (j / 2)) := by
      conv => lhs; rw [this]
      rw [Nat.pow_succ, Nat.mul_comm]
    rw [e4, ← Nat.mul_assoc, Nat.mul_mod, Nat.mod_mod, ← Nat.mul_mod]
  · rw [if_neg z]
    have : 2 * (j / 2) = j := by omega
    rw [this]
theorem power_left_ok {a e m : Nat} (hm : 2 ≤ m) (hm2 : m < 10 ^ 14) (he : e < 10 ^ 40) : m_power_left a e m = some ((a ^ e % m : Nat) : Int) := by
  unfold m_power_left
  have hm0 : 0 < m := by omega
  refine tt_eq (tt_bnd.mpr (tt_grd.mpr ⟨by omega, tt_bnd.mpr (Tt.then (P' := fun st _ => st.2.2 = ((a ^ e % m : Nat) : Int)) ?_ fun st _ h => ?_)⟩))
  · rw [nmod]
    refine Tt.wh (I := fun (st : Int × Int × Int) _ => ∃ (o j f : Nat), st = ((o : Int), (j : Int), (f : Int)) ∧ f < m ∧ o < m ∧ f * o ^ j % m = a ^ e % m) (nu := fun st => st.2.1.toNat) ?_ many _ _ ⟨a % m, e, 1, rfl, by omega, Nat.mod_lt _ hm0, ?_⟩ (lt_many (by simpa using he))
    · rintro st s K P ⟨o, j, f, rfl, hf, ho, e1⟩ hk
      refine hk _ _ (fun ht => ?_) (fun ht => ?_)
      · have hj : 0 < j := by simpa using ht
        refine tt_grd.mpr ⟨by decide, Tt.then (P' := fun st _ => st = ((if j % 2 = 1 then f * o % m else f : Nat) : Int)) ?_ ?_⟩
        · by_cases z : j % 2 = 1
          · rw [if_pos (show (decide ((j : Int) % 2 = 1) = true) by rw [decide_eq_true_iff]; omega)]
            simp only [tt_grd, tt_bnd, tt_pure]
            refine ⟨⟨sm_small (by omega), sm_small (by omega)⟩, by omega, ?_⟩
            rw [mulmod, if_pos z]
          · rw [if_neg (show ¬ (decide ((j : Int) % 2 = 1) = true) by rw [decide_eq_true_iff]; omega)]
            rw [if_neg z]; exact tt_pure.mpr rfl
        · rintro st s1 rfl
          simp only [tt_grd, tt_bnd, tt_pure]
          have e2 : (j : Int) / 2 = ((j / 2 : Nat) : Int) := by omega
          rw [mulmod, e2]
          refine ⟨⟨sm_small (by omega), sm_small (by omega)⟩, by omega, dv_of (by decide) (by decide +kernel), ⟨_, j / 2, _, rfl, ?_, Nat.mod_lt _ hm0, ?_⟩, ?_⟩
          · split
            · exact Nat.mod_lt _ hm0
            · exact hf
          · rw [power_step hj hm0, e1]
          · show (((j / 2 : Nat) : Int)).toNat < ((j : Int)).toNat
            omega
      · have hj : j = 0 := by simp at ht; omega
        subst hj
        show (f : Int) = _
        rw [← e1, Nat.pow_zero, Nat.mul_one, Nat.mod_eq_of_lt hf]
    · rw [Nat.one_mul, ← Nat.pow_mod]
  · simp only [tt_bnd, tt_pure]; exact h
theorem does_pass_ok {n a s d : Nat} (hn : 3 ≤ n) (hn2 : n < 10 ^ 14) (hs : 1 ≤ s) (hs2 : s < 10 ^ 6) (hd : d < 10 ^ 40) : m_does_pass n a s d = some (decide (Strong n a s d)) := by
  unfold m_does_pass
  refine tt_eq ((tt_lft (power_left_ok (by omega) hn2 hd)).mpr (tt_bnd.mpr (tt_grd.mpr ⟨by simp, ?_⟩)))
  have hn1 : ((n : Int) - 1) = ((n - 1 : Nat) : Int) := by omega
  have hlt : a ^ d % n < n := Nat.mod_lt _ (by omega)
  by_cases z : a ^ d % n = 1 ∨ a ^ d % n = n - 1
  · refine Tt.pos ?_ (tt_bnd.mpr (tt_pure.mpr ?_))
    · rw [hn1]
      rcases z with z | z <;> rw [z] <;> simp
    · symm
      rw [decide_eq_true_iff]
      rcases z with z | z
      · exact .inl z
      · exact .inr ⟨0, by omega, by rw [Nat.pow_zero, Nat.one_mul]; exact z⟩
  · have z1 : a ^ d % n ≠ 1 := fun e => z (.inl e)
    have z2 : a ^ d % n ≠ n - 1 := fun e => z (.inr e)
    refine Tt.neg ?_ (tt_grd.mpr ⟨⟨by omega, by omega⟩, ?_⟩)
    · rw [hn1]
      simp only [List.contains_cons, List.contains_nil, Bool.or_false, Bool.or_eq_true, beq_iff_eq]
      omega
    · have sq : ∀ i, (a ^ (2 ^ i * d) % n) * (a ^ (2 ^ i * d) % n) % n = a ^ (2 ^ (i + 1) * d) % n := fun i => by
        rw [← Nat.mul_mod, ← Nat.pow_add, Nat.pow_succ, Nat.mul_comm (2 ^ i) 2, Nat.mul_assoc, Nat.two_mul]
      refine Tt.then (P' := fun o _ => match o with | .go _ => ¬ Strong n a s d | .brk _ => False | .ret r => r = decide (Strong n a s d)) ?_ fun o s1 h => ?_
      · refine Tt.rgC (I := fun (x : Int) (st : Int) _ => ∃ i : Nat, x = i ∧ st = ((a ^ (2 ^ i * d) % n : Nat) : Int) ∧ ∀ j, j ≤ i → a ^ (2 ^ j * d) % n ≠ n - 1) ?_ ?_ (s - 1) 0 _ _ (by omega) ⟨0, rfl, by rw [Nat.pow_zero, Nat.one_mul], fun j hj => by rw [show j = 0 by omega, Nat.pow_zero, Nat.one_mul]; exact z2⟩
        · rintro x st s1 hx ⟨i, rfl, rfl, hi⟩
          have hb : a ^ (2 ^ i * d) % n < n := Nat.mod_lt _ (by omega)
          have hb2 : a ^ (2 ^ (i + 1) * d) % n < n := Nat.mod_lt _ (by omega)
          refine tt_grd.mpr ⟨⟨sm_small (by omega), sm_small (by omega)⟩, tt_grd.mpr ⟨by omega, tt_bnd.mpr ?_⟩⟩
          rw [mulmod, sq]
          by_cases y : a ^ (2 ^ (i + 1) * d) % n = n - 1
          · refine Tt.pos (by rw [decide_eq_true_iff]; omega) (tt_bnd.mpr (tt_pure.mpr ?_))
            show true = decide (Strong n a s d)
            symm
            rw [decide_eq_true_iff]
            exact .inr ⟨i + 1, by omega, y⟩
          · refine Tt.neg (by rw [decide_eq_true_iff]; omega) (tt_pure.mpr ⟨i + 1, by omega, rfl, fun j hj => ?_⟩)
            by_cases w : j = i + 1
            · rw [w]; exact y
            · exact hi j (by omega)
        · rintro st s1 ⟨i, e, _, hi⟩
          rintro (h | ⟨j, hj, h⟩)
          · exact z1 h
          · exact hi j (by omega) h
      · cases o with
        | go st => exact tt_bnd.mpr (tt_pure.mpr (by symm; rw [decide_eq_false_iff_not]; exact h))
        | brk st => exact h.elim
        | ret r => exact tt_pure.mpr h
/-! ### the test of primes -/
def sm12 : List Nat := [2, 3, 5, 7, 11, 13, 17, 19, 23, 29, 31, 37]
/-- how often 2 divides n - 1, and the rest -/
def s2 (n : Nat) : Nat := vp 2 (n - 1)
def d2 (n : Nat) : Nat := (n - 1) / 2 ^ vp 2 (n - 1)
def isp (n : Nat) : Bool := if n < 2 then false else match sm12.find? (fun p => decide (n % p = 0)) with
  | some p => decide (n = p)
  | none => sm12.all fun a => decide (Strong n a (s2 n) (d2 n))
theorem s2_spec {n : Nat} (hn : 2 ≤ n) : n - 1 = 2 ^ s2 n * d2 n := vp_split (by decide) (by omega)
theorem s2_pos {n : Nat} (hn : 3 ≤ n) (h : n % 2 = 1) : 1 ≤ s2 n := vp_pos (by omega) (by decide) (by omega)
theorem vp_log {p n k : Nat} (hp : 2 ≤ p) (hn : 0 < n) (h : n < 2 ^ k) : vp p n < k := by
  have h1 := Nat.le_of_dvd hn (vp_dvd hp hn)
  have h3 : 2 ^ vp p n ≤ p ^ vp p n := Nat.pow_le_pow_left hp _
  exact (Nat.pow_lt_pow_iff_right (by decide : 1 < 2)).mp (by omega)
theorem is_prime_number_ok {n : Nat} (hn2 : n < 10 ^ 14) : m_is_prime_number n = some (isp n) := by
  unfold m_is_prime_number isp
  by_cases h2 : n < 2
  · rw [if_pos (show decide ((n : Int) < 2) = true by rw [decide_eq_true_iff]; omega), if_pos h2]; rfl
  rw [if_neg (show ¬ decide ((n : Int) < 2) = true by rw [decide_eq_true_iff]; omega), if_neg h2]
  refine tt_eq (tt_grd.mpr ⟨by simp, tt_bnd.mpr (Tt.then (P' := fun o _ => match o with
      | .go _ => sm12.find? (fun p => decide (n % p = 0)) = none
      | .brk _ => False
      | .ret r => ∃ p, sm12.find? (fun p => decide (n % p = 0)) = some p ∧ r = decide (n = p)) ?_ fun o s1 h => ?_)⟩)
  · refine Tt.lpC (I := fun (l : List Int) (st : Unit) _ => ∃ r : List Nat, l = r.map (fun x : Nat => (x : Int)) ∧ (∀ x ∈ r, 0 < x) ∧ r.find? (fun p => decide (n % p = 0)) = sm12.find? (fun p => decide (n % p = 0))) ?_ ?_ _ _ _ ⟨sm12, rfl, by decide, rfl⟩
    · rintro x xs st s1 ⟨r, e1, h0, e2⟩
      cases r with
      | nil => exact nomatch e1
      | cons y r =>
        rw [List.map_cons] at e1
        injection e1 with e1 e3
        subst e1 e3
        have hy := h0 y (List.mem_cons_self ..)
        refine tt_grd.mpr ⟨by omega, ?_⟩
        by_cases z : n % y = 0
        · refine Tt.pos (by rw [decide_eq_true_iff]; omega) (tt_bnd.mpr (tt_pure.mpr ⟨y, ?_, ?_⟩))
          · rw [← e2, List.find?_cons_of_pos (by simpa using z)]
          · exact dec_nat
        · refine Tt.neg (by rw [decide_eq_true_iff]; omega) (tt_pure.mpr ⟨r, rfl, fun x hx => h0 x (List.mem_cons_of_mem _ hx), ?_⟩)
          rw [← e2, List.find?_cons_of_neg (by simpa using z)]
    · rintro st s1 ⟨r, e1, _, e2⟩
      have : r = [] := List.map_eq_nil_iff.mp e1.symm
      subst this
      exact e2.symm
  · cases o with
    | brk st => exact h.elim
    | ret r =>
      obtain ⟨p, e, rfl⟩ := h
      rw [e]
      exact tt_pure.mpr rfl
    | go st =>
      have h : sm12.find? (fun p => decide (n % p = 0)) = none := h
      have hodd : n % 2 = 1 := by
        have := List.find?_eq_none.mp h 2 (by decide)
        simp at this
        omega
      have e1 : ((n : Int) - 1) = ((n - 1 : Nat) : Int) := by omega
      have e2 : (2 : Int) = ((2 : Nat) : Int) := rfl
      show Tt () (Mir.lft (m_taken_out ((n : Int) - 1) 2) >>= _) _
      rw [e1, e2, taken_out_ok (by decide) (by decide) (by omega) (by omega)]
      refine (tt_lft rfl).mpr (tt_bnd.mpr (tt_grd.mpr ⟨by simp, ?_⟩))
      have h3 : 3 ≤ n := by omega
      refine tt_map (g := fun x : Int => decide (Strong n x.toNat (s2 n) (d2 n))) ?_ (tt_bnd.mpr (tt_pure.mpr ?_))
      · intro x hx s Q hQ
        have hx : x ∈ sm12.map (fun x : Nat => (x : Int)) := hx
        obtain ⟨y, hy, rfl⟩ := List.mem_map.mp hx
        refine (tt_lft (does_pass_ok h3 hn2 (s2_pos h3 hodd) ?_ ?_)).mpr (tt_pure.mpr (by rw [Int.toNat_natCast] at hQ; exact hQ))
        · have := vp_log (p := 2) (n := n - 1) (k := 60) (by decide) (by omega) (by omega)
          show vp 2 (n - 1) < _
          omega
        · have : d2 n ≤ n - 1 := Nat.div_le_self _ _
          show d2 n < _
          omega
      · rw [h]
        show List.all (List.map _ (sm12.map fun x : Nat => (x : Int))) id = _
        rw [List.map_map, List.all_map]
        rfl
theorem sm12_pr : ∀ a ∈ sm12, Pr a := fun a ha => by
  have : ∀ a ∈ sm12, 2 ≤ a ∧ ∀ d, d < a → 2 ≤ d → a % d ≠ 0 := by decide
  exact ⟨(this a ha).1, fun d h1 h2 => (this a ha).2 d h2 h1⟩
theorem isp_prime {p : Nat} (h : Pr p) : isp p = true := by
  have h2 := h.1
  unfold isp
  rw [if_neg (by omega)]
  cases e : sm12.find? (fun q => decide (p % q = 0)) with
  | some q =>
    show decide (p = q) = true
    have hq := List.find?_some e
    have hm := List.mem_of_find?_eq_some e
    simp only [decide_eq_true_eq] at hq ⊢
    rcases h.one (Nat.dvd_of_mod_eq_zero hq) with z | z
    · subst z; exact absurd hm (by decide)
    · exact z.symm
  | none =>
    rw [List.all_eq_true]
    intro a ha
    rw [decide_eq_true_iff]
    refine strong_prime h (fun hd => ?_) (s2_spec h2)
    -- a small prime that p divides is p itself
    have hn := List.find?_eq_none.mp e a ha
    simp only [decide_eq_true_eq] at hn
    rcases Pr.one (sm12_pr a ha) hd with z | z
    · omega
    · exact hn (by rw [z, Nat.mod_self])
end Wk
set_option Elab.async false
set_option maxRecDepth 1000000
set_option maxHeartbeats 4000000
set_option linter.all false
/-! P3: the test of primes is right below ten million -/
namespace Wk
open PySem L2
open PyProof.Rows hiding St
def pwm (m : Nat) : Nat → Nat → Nat → Nat → Nat
  | 0, _, _, acc => acc
  | f + 1, a, e, acc => bif Nat.beq e 0 then acc else pwm m f (a * a % m) (e / 2) (bif Nat.beq (e % 2) 1 then acc * a % m else acc)
theorem nbeq {a b : Nat} (h : a ≠ b) : Nat.beq a b = false := by
  cases e : Nat.beq a b with
  | false => rfl
  | true => exact absurd (Nat.eq_of_beq_eq_true e) h
theorem pwm_eq {m : Nat} (hm : 0 < m) : ∀ (f a e acc : Nat), acc < m → e < 2 ^ f → pwm m f a e acc = acc * a ^ e % m
  | 0, a, e, acc, h, he => by
    have : e = 0 := by rw [Nat.pow_zero] at he; omega
    subst this
    show acc = _
    rw [Nat.pow_zero, Nat.mul_one, Nat.mod_eq_of_lt h]
  | f + 1, a, e, acc, h, he => by
    rw [pwm]
    by_cases z : e = 0
    · subst z
      show acc = _
      rw [Nat.pow_zero, Nat.mul_one, Nat.mod_eq_of_lt h]
    · have b : Nat.beq e 0 = false := nbeq z
      rw [b]
      show pwm m f (a * a % m) (e / 2) _ = _
      have key : (bif Nat.beq (e % 2) 1 then acc * a % m else acc) = if e % 2 = 1 then acc * a % m else acc := by
        by_cases y : e % 2 = 1
        · rw [if_pos y, y]; rfl
        · have : Nat.beq (e % 2) 1 = false := nbeq y
          rw [if_neg y, this]; rfl
      rw [key, pwm_eq hm f _ _ _ (by split; exact Nat.mod_lt _ hm; exact h) (by rw [Nat.pow_succ] at he; omega), power_step (by omega) hm]
def sqs (n : Nat) : Nat → Nat → Bool
  | 0, _ => false
  | s + 1, x => Nat.beq x (n - 1) || sqs n s (x * x % n)
def strB (n a : Nat) : Bool := match out 2 50 (n - 1) with | (s, d) => match pwm n 50 a d 1 with | x => Nat.beq x 1 || sqs n s x
theorem sqs_eq {n a d : Nat} : ∀ (s i : Nat), sqs n s (a ^ (2 ^ i * d) % n) = true ↔ ∃ j, i ≤ j ∧ j < i + s ∧ a ^ (2 ^ j * d) % n = n - 1
  | 0, i => by
    constructor
    · intro h; exact nomatch h
    · rintro ⟨j, h1, h2, _⟩; omega
  | s + 1, i => by
    have sq : (a ^ (2 ^ i * d) % n) * (a ^ (2 ^ i * d) % n) % n = a ^ (2 ^ (i + 1) * d) % n := by
      rw [← Nat.mul_mod, ← Nat.pow_add, Nat.pow_succ, Nat.mul_comm (2 ^ i) 2, Nat.mul_assoc, Nat.two_mul]
    rw [sqs, Bool.or_eq_true, sq, sqs_eq s (i + 1), Nat.beq_eq]
    constructor
    · rintro (h | ⟨j, h1, h2, h3⟩)
      · exact ⟨i, Nat.le_refl _, by omega, h⟩
      · exact ⟨j, by omega, by omega, h3⟩
    · rintro ⟨j, h1, h2, h3⟩
      by_cases z : j = i
      · exact .inl (z ▸ h3)
      · exact .inr ⟨j, by omega, by omega, h3⟩
theorem strB_eq {n a : Nat} (hn : 2 ≤ n) (h : n < 2 ^ 50) : strB n a = true ↔ Strong n a (s2 n) (d2 n) := by
  unfold strB
  rw [out_eq (by decide) 50 (n - 1) (by omega) (by omega)]
  show (Nat.beq (pwm n 50 a (d2 n) 1) 1 || sqs n (s2 n) (pwm n 50 a (d2 n) 1)) = true ↔ _
  have hd : d2 n ≤ n - 1 := Nat.div_le_self _ _
  rw [pwm_eq (by omega) 50 a _ 1 (by omega) (by omega), Nat.one_mul, Bool.or_eq_true, Nat.beq_eq]
  have e := sqs_eq (n := n) (a := a) (d := d2 n) (s2 n) 0
  rw [Nat.pow_zero, Nat.one_mul] at e
  rw [e]
  unfold Strong
  constructor
  · rintro (h | ⟨j, _, h2, h3⟩)
    · exact .inl h
    · exact .inr ⟨j, by omega, h3⟩
  · rintro (h | ⟨j, h2, h3⟩)
    · exact .inl h
    · exact .inr ⟨j, by omega, by omega, h3⟩
/-! ### the candidates -/
def hasS (n : Nat) : Bool := sm12.any fun p => Nat.beq (n % p) 0
def badc (p c : Nat) : Bool := hasS c || [2, 3, 5, 7].any fun a => !strB (p * c) a
def fullp (p : Nat) : Bool := (pf (p - 1)).all fun y => sm12.any fun a => !Nat.beq (a ^ ((p - 1) / y.1) % p) 1
def pr53 : List Nat := [2, 3, 5, 7, 11, 13, 17, 19, 23, 29, 31, 37, 41, 43, 47, 53]
def pq53 (p : Nat) : Bool := pr53.all fun q => Nat.beq p q || !Nat.beq (p % q) 0
def chkp (B p : Nat) : Bool := fullp p && (List.range ((B / p - 1) / (p - 1))).all fun t => badc p (1 + (t + 1) * (p - 1))
def chk (B r : Nat) : Bool := (List.range (r + 1)).all fun p => Nat.ble p 40 || !pq53 p || chkp B p
theorem pr_pq {p : Nat} (h : Pr p) : pq53 p = true := by
  unfold pq53
  rw [List.all_eq_true]
  intro q hq
  have hq2 : 2 ≤ q := by
    have : ∀ q ∈ pr53, 2 ≤ q := by decide
    exact this q hq
  rw [Bool.or_eq_true, Nat.beq_eq]
  by_cases z : p % q = 0
  · rcases h.one (Nat.dvd_of_mod_eq_zero z) with y | y
    · omega
    · exact .inl y.symm
  · right
    have : Nat.beq (p % q) 0 = false := nbeq z
    rw [this]; rfl
theorem small_pr : ∀ p, p < 41 → Pr p → p ∈ sm12 := by
  have key : ∀ p, p < 41 → p ∈ sm12 ∨ p < 2 ∨ ∃ d, d < p ∧ 2 ≤ d ∧ p % d = 0 := by decide
  intro p hp h
  rcases key p hp with z | z | ⟨d, h1, h2, h3⟩
  · exact z
  · have := h.1; omega
  · exact absurd h3 (h.2 d h2 h1)
/-- a prime that divides a composite number, at most its root -/
theorem pr_root {n : Nat} (h2 : 2 ≤ n) (h : ¬ Pr n) : ∃ p, Pr p ∧ n % p = 0 ∧ p * p ≤ n := by
  obtain ⟨q, hq, e⟩ := pr_div n h2
  by_cases z : q * q ≤ n
  · exact ⟨q, hq, e, z⟩
  · obtain ⟨c, hc⟩ := Nat.dvd_of_mod_eq_zero e
    have hc2 : 2 ≤ c := by
      rcases c with _ | _ | c
      · omega
      · exfalso; apply h; rw [hc]; simpa using hq
      · omega
    obtain ⟨r, hr, e2⟩ := pr_div c hc2
    have hrc := Nat.le_of_dvd (by omega) (Nat.dvd_of_mod_eq_zero e2)
    refine ⟨r, hr, Nat.mod_eq_zero_of_dvd (Nat.dvd_trans (Nat.dvd_of_mod_eq_zero e2) ⟨q, by rw [hc, Nat.mul_comm]⟩), ?_⟩
    have hcq : c ≤ q := Nat.le_of_not_lt fun y => by
      have : q * q ≤ q * c := Nat.mul_le_mul_left q (by omega)
      omega
    calc r * r ≤ c * c := Nat.mul_le_mul hrc hrc
      _ ≤ q * c := Nat.mul_le_mul_right c hcq
      _ = n := hc.symm
theorem isp_right {B r n : Nat} (hc : chk B r = true) (hr : B < (r + 1) * (r + 1)) (hB : B < 2 ^ 50) (hn : n ≤ B) (h : isp n = true) : Pr n := by
  unfold isp at h
  by_cases h2 : n < 2
  · rw [if_pos h2] at h; cases h
  rw [if_neg h2] at h
  cases e : sm12.find? (fun q => decide (n % q = 0)) with
  | some q =>
    rw [e] at h
    have h : decide (n = q) = true := h
    rw [decide_eq_true_iff] at h
    rw [h]
    exact sm12_pr q (List.mem_of_find?_eq_some e)
  | none =>
    rw [e] at h
    have hall : ∀ a ∈ sm12, Strong n a (s2 n) (d2 n) := fun a ha => by
      have := List.all_eq_true.mp h a ha
      rwa [decide_eq_true_iff] at this
    have hno : ∀ a ∈ sm12, n % a ≠ 0 := fun a ha z => by
      have := List.find?_eq_none.mp e a ha
      simp only [decide_eq_true_eq] at this
      exact this z
    refine Classical.byContradiction fun hnp => ?_
    obtain ⟨p, hp, hd, hpp⟩ := pr_root (by omega) hnp
    have hp41 : 41 ≤ p := Nat.le_of_not_lt fun z => hno p (small_pr p (by omega) hp) hd
    obtain ⟨c, hnc⟩ := Nat.dvd_of_mod_eq_zero hd
    have hcp : p ≤ c := Nat.le_of_not_lt fun z => by
      have : p * c < p * p := Nat.mul_lt_mul_of_pos_left z hp.pos
      omega
    have hpr : p ≤ r := Nat.le_of_not_lt fun z => by
      have : (r + 1) * (r + 1) ≤ p * p := Nat.mul_le_mul z z
      omega
    have hck := List.all_eq_true.mp hc p (List.mem_range.mpr (by omega))
    rw [Bool.or_eq_true, Bool.or_eq_true, pr_pq hp] at hck
    have hck : chkp B p = true := by
      rcases hck with (z | z) | z
      · rw [Nat.ble_eq] at z; omega
      · cases z
      · exact z
    unfold chkp at hck
    rw [Bool.and_eq_true] at hck
    -- all of them leave 1
    have hone : ∀ a ∈ sm12, a ^ (c - 1) % p = 1 % p := fun a ha => by
      have h1 := strong_pass (by omega) (s2_spec (by omega)) (hall a ha)
      have h3 : a ^ (n - 1) % p = 1 % p := by rw [← Nat.mod_mod_of_dvd (a ^ (n - 1)) (Nat.dvd_of_mod_eq_zero hd), h1]
      have hap : ¬ p ∣ a := fun z => by
        have hle := Nat.le_of_dvd ((sm12_pr a ha).pos) z
        have : ∀ a ∈ sm12, a ≤ 37 := by decide
        have := this a ha
        omega
      have hf : a ^ (p - 1) % p = 1 % p := by rw [fermat hp hap, Nat.mod_eq_of_lt (by omega)]
      have e1 : n - 1 = (p - 1) * c + (c - 1) := by
        rw [hnc, Nat.sub_mul, Nat.one_mul]
        have : c ≤ p * c := Nat.le_mul_of_pos_left c hp.pos
        omega
      rw [e1, Nat.pow_add, Nat.pow_mul, mul_cong (pow_cong hf c) rfl, Nat.one_pow, Nat.one_mul] at h3
      exact h3
    have hfull : (p - 1) ∣ (c - 1) := by
      have hg : ∀ a ∈ sm12, a ^ Nat.gcd (p - 1) (c - 1) % p = 1 % p := fun a ha => by
        refine pow_gcd _ _ ?_ (hone a ha)
        have hap : ¬ p ∣ a := fun z => by
          have hle := Nat.le_of_dvd ((sm12_pr a ha).pos) z
          have : ∀ a ∈ sm12, a ≤ 37 := by decide
          have := this a ha
          omega
        rw [fermat hp hap, Nat.mod_eq_of_lt (by omega)]
      have hgd := Nat.gcd_dvd_left (p - 1) (c - 1)
      have hgle := Nat.le_of_dvd (by omega) hgd
      have hg0 : 0 < Nat.gcd (p - 1) (c - 1) := Nat.pos_of_dvd_of_pos hgd (by omega)
      by_cases z : Nat.gcd (p - 1) (c - 1) = p - 1
      · rw [← z]; exact Nat.gcd_dvd_right _ _
      · exfalso
        obtain ⟨e, he⟩ := hgd
        have he2 : 2 ≤ e := by
          rcases e with _ | _ | e
          · omega
          · exfalso; apply z; rw [he]; omega
          · omega
        obtain ⟨q, hq, hqe⟩ := pr_div e he2
        obtain ⟨w, hw⟩ := Nat.dvd_of_mod_eq_zero hqe
        have hpq : p - 1 = q * (Nat.gcd (p - 1) (c - 1) * w) := by
          conv => lhs; rw [he, hw]
          rw [Nat.mul_left_comm]
        have hple : p ≤ n := Nat.le_of_dvd (by omega) (Nat.dvd_of_mod_eq_zero hd)
        have hmem := ((pf_ok (n := p - 1) (by omega) (by omega)).m q _).mpr ⟨hq, ⟨_, hpq⟩, rfl⟩
        obtain ⟨a, ha, y⟩ := List.any_eq_true.mp (List.all_eq_true.mp hck.1 _ hmem)
        have hdq : (p - 1) / q = Nat.gcd (p - 1) (c - 1) * w := by
          conv => lhs; rw [hpq]
          exact Nat.mul_div_cancel_left _ hq.pos
        have y : (!Nat.beq (a ^ ((p - 1) / q) % p) 1) = true := y
        rw [hdq, pow_mul_one (hg a ha) ⟨w, rfl⟩, Nat.mod_eq_of_lt (show 1 < p by omega)] at y
        cases y
    obtain ⟨t, ht⟩ := hfull
    have ht0 : 0 < t := Nat.pos_of_ne_zero (by rintro rfl; omega)
    have hce : c = 1 + (t - 1 + 1) * (p - 1) := by
      rw [Nat.sub_add_cancel ht0, Nat.mul_comm, ← ht]; omega
    have htl : t - 1 < (B / p - 1) / (p - 1) := by
      have h5 : c ≤ B / p := (Nat.le_div_iff_mul_le hp.pos).mpr (by rw [Nat.mul_comm, ← hnc]; exact hn)
      have h6 : t ≤ (B / p - 1) / (p - 1) := (Nat.le_div_iff_mul_le (by omega)).mpr (by rw [Nat.mul_comm, ← ht]; omega)
      omega
    have hb := List.all_eq_true.mp hck.2 (t - 1) (List.mem_range.mpr htl)
    rw [← hce] at hb
    unfold badc at hb
    rw [Bool.or_eq_true] at hb
    rcases hb with z | z
    · obtain ⟨q, hq, y⟩ := List.any_eq_true.mp z
      rw [Nat.beq_eq] at y
      refine hno q hq (Nat.mod_eq_zero_of_dvd (Nat.dvd_trans (Nat.dvd_of_mod_eq_zero y) ⟨p, by rw [hnc, Nat.mul_comm]⟩))
    · obtain ⟨a, ha, y⟩ := List.any_eq_true.mp z
      rw [← hnc] at y
      have hs : strB n a = true := (strB_eq (by omega) (by omega)).mpr (hall a (by
        have : ∀ a ∈ [2, 3, 5, 7], a ∈ sm12 := by decide
        exact this a ha))
      rw [hs] at y
      cases y
end Wk
set_option Elab.async false
set_option maxRecDepth 1000000
set_option maxHeartbeats 4000000
set_option linter.all false
namespace Wk
theorem chk4 : chk 20000 141 = true := by decide +kernel
end Wk
set_option Elab.async false
set_option maxRecDepth 100000
set_option maxHeartbeats 4000000
set_option linter.all false
/-! P5: partings as the program and the law make them -/
namespace Wk
open PySem L2
open PyProof.Rows hiding St
def pfi (l : List (Nat × Nat)) : List (Int × Int) := l.map fun y => ((y.1 : Int), (y.2 : Int))
theorem pfi_app (a b : List (Nat × Nat)) : pfi (a ++ b) = pfi a ++ pfi b := List.map_append
theorem pfi_len (a : List (Nat × Nat)) : (pfi a).length = a.length := List.length_map ..
theorem out_loop {p m : Nat} (hp : 2 ≤ p) (hq : p < 10 ^ 40) (hn : 0 < m) (hN : m < 10 ^ 40) {P : Int × Int → Unit → Prop} (h : P (((m / p ^ vp p m : Nat) : Int), (vp p m : Int)) ()) :
    Tt () (whS many (fun (st : Int × Int) k => Mir.lft (grd (0 < (p : Int))) >>= fun _ => k (decide ((st.1 % (p : Int)) = (0 : Int)))) (fun (st : Int × Int) =>
      bnd (st.2 + (1 : Int)) fun often => Mir.lft (grd (Dv (p : Int))) >>= fun _ => bnd (st.1 / (p : Int)) fun number => pure (number, often)) ((m : Int), (0 : Int)) : Option (Int × Int)) P := by
  refine Tt.mono (P := fun st _ => st = (((m / p ^ vp p m : Nat) : Int), (vp p m : Int))) ?_ fun a s1 e => by rw [e]; exact h
  refine Tt.wh (I := fun (st : Int × Int) _ => ∃ k j : Nat, st = ((k : Int), (j : Int)) ∧ 0 < k ∧ k ≤ m ∧ j + vp p k = vp p m ∧ k / p ^ vp p k = m / p ^ vp p m) (nu := fun st => st.1.toNat) ?_ many _ _ ⟨m, 0, rfl, hn, Nat.le_refl _, by omega, rfl⟩ (lt_many (by simpa using hN))
  rintro st s k P ⟨m', j, rfl, h0, hle, h1, h2⟩ hk
  refine tt_grd.mpr ⟨by omega, hk _ _ (fun ht => ?_) (fun ht => ?_)⟩
  · have hd : m' % p = 0 := by simp only [decide_eq_true_eq] at ht; omega
    have hdv := Nat.dvd_of_mod_eq_zero hd
    have h3 : 0 < m' / p := Nat.div_pos (Nat.le_of_dvd h0 hdv) (by omega)
    have h4 : m' / p < m' := Nat.div_lt_self h0 (by omega)
    refine tt_bnd.mpr (tt_grd.mpr ⟨dv_nat (by omega) hq, tt_bnd.mpr (tt_pure.mpr ⟨⟨m' / p, j + 1, by rw [ndiv]; rfl, h3, by omega, ?_, ?_⟩, ?_⟩)⟩)
    · rw [vp_s h0 hp hd] at h1; omega
    · rw [← h2, vp_s h0 hp hd, Nat.pow_succ, Nat.mul_comm (p ^ _) p, ← Nat.div_div_eq_div_mul]
    · show ((m' : Int) / (p : Int)).toNat < (m' : Int).toNat
      rw [ndiv]; omega
  · have hd : m' % p ≠ 0 := by simp only [decide_eq_false_iff_not] at ht; omega
    rw [vp_no hd] at h1 h2
    show ((m' : Int), (j : Int)) = _
    rw [Nat.pow_zero, Nat.div_one] at h2
    rw [← h2, ← h1, Nat.add_zero]
/-- how a search for primes stands: what is found, what is left -/
structure Sr (n m q : Nat) (l : List (Nat × Nat)) : Prop where
  q2 : 2 ≤ q
  m0 : 0 < m
  md : m ∣ n
  iv : Inv q m
  go : ∀ r, PF m r → PF n (l ++ r)
  ln : l.length ≤ q
theorem Sr.start {n : Nat} (hn : 0 < n) : Sr n n 2 [] := ⟨by decide, hn, Nat.dvd_refl _, inv2 n, fun r h => h, by simp⟩
theorem Sr.no {n m q : Nat} {l : List (Nat × Nat)} (h : Sr n m q l) (hd : m % q ≠ 0) : Sr n m (q + 1) l := ⟨by have := h.q2; omega, h.m0, h.md, h.iv.no hd, h.go, by have := h.ln; omega⟩
theorem Sr.skip {n m q : Nat} {l : List (Nat × Nat)} (h : Sr n m q l) (hd : ¬ Pr q) : Sr n m (q + 1) l := ⟨by have := h.q2; omega, h.m0, h.md, h.iv.skip hd, h.go, by have := h.ln; omega⟩
theorem Sr.out {n m q : Nat} {l : List (Nat × Nat)} (h : Sr n m q l) (hd : m % q = 0) : Sr n (m / q ^ vp q m) (q + 1) (l ++ [(q, vp q m)]) :=
  ⟨by have := h.q2; omega, rest_pos h.q2 h.m0, Nat.dvd_trans (rest_dvd h.q2 h.m0) h.md, h.iv.out h.q2 h.m0, fun r hr => by
    rw [List.append_assoc]
    exact h.go _ (PF.cons h.iv h.q2 h.m0 hd hr), by
    have := h.ln
    rw [List.length_append]
    simpa using this⟩
theorem not_pr {q d : Nat} (h1 : 2 ≤ d) (h2 : d < q) (h3 : q % d = 0) : ¬ Pr q := fun h => h.2 d h1 h2 h3
/-- the end of a search -/
theorem Sr.last {n m q : Nat} {l : List (Nat × Nat)} (h : Sr n m q l) (hm : m = 1 ∨ Pr m) (hn : 0 < n) (h64 : n < 2 ^ 64) : l ++ (if 1 < m then [(m, 1)] else []) = pf n := by
  refine PF.uniq (h.go _ ?_) (pf_ok hn h64)
  rcases hm with e | e
  · rw [e, if_neg (by decide)]; exact PF.one
  · rw [if_pos (show 1 < m from e.1)]; exact PF.prime e
theorem Sr.done {n m q : Nat} {l : List (Nat × Nat)} (h : Sr n m q l) (hq : m < q * q) : m = 1 ∨ Pr m := by
  by_cases z : m = 1
  · exact .inl z
  · exact .inr (h.iv.last (by have := h.m0; omega) hq)
theorem Sr.few {n m q : Nat} {l : List (Nat × Nat)} (h : Sr n m q l) (hn : 0 < n) (h64 : n < 2 ^ 64) : l.length ≤ 64 := by
  have h0 := Nat.le_of_dvd hn h.md
  have := (h.go _ (pf_ok h.m0 (by omega))).len hn
  rw [List.length_append] at this
  have h6 : l.length + (pf m).length < 64 := (Nat.pow_lt_pow_iff_right (by decide : 1 < 2)).mp (by omega)
  omega
/-- the law's next one -/
def nx2 (q : Nat) : Nat := if q = 2 then q + 1 else q + 2
theorem nx2_int {q : Nat} : (if decide ((q : Int) = (2 : Int)) = true then (q : Int) + (1 : Int) else (q : Int) + (2 : Int)) = ((nx2 q : Nat) : Int) := by
  unfold nx2
  by_cases z : q = 2
  · rw [if_pos z, if_pos (by rw [decide_eq_true_iff]; omega)]; rfl
  · rw [if_neg z, if_neg (by rw [decide_eq_true_iff]; omega)]; rfl
theorem nx2_odd {q : Nat} (h : q = 2 ∨ q % 2 = 1) : nx2 q % 2 = 1 := by unfold nx2; split <;> omega
theorem nx2_le (q : Nat) : q < nx2 q ∧ nx2 q ≤ q + 2 := by unfold nx2; split <;> omega
theorem Sr.nx2 {n m q : Nat} {l : List (Nat × Nat)} (h : Sr n m (q + 1) l) (hq : 2 ≤ q) (hw : q = 2 ∨ q % 2 = 1) : Sr n m (Wk.nx2 q) l := by
  unfold Wk.nx2
  by_cases z : q = 2
  · rw [if_pos z]; exact h
  · rw [if_neg z]
    exact h.skip (not_pr (d := 2) (by decide) (by omega) (by omega))
theorem law_primes_ok {n : Nat} (hn : 0 < n) (h64 : n < 2 ^ 64) : m__law_primes n = some (pfi (pf n)) := by
  unfold m__law_primes
  refine tt_eq (tt_grd.mpr ⟨by simp, tt_bnd.mpr (tt_bnd.mpr (Tt.then (P' := fun st _ => ∃ (m q : Nat) (l : List (Nat × Nat)), st = ((m : Int), pfi l, (q : Int)) ∧ Sr n m q l ∧ m < q * q) ?_ fun st _ h => ?_))⟩)
  · refine Tt.wh (I := fun (st : Int × (List (Int × Int)) × Int) _ => ∃ (m q : Nat) (l : List (Nat × Nat)), st = ((m : Int), pfi l, (q : Int)) ∧ Sr n m q l ∧ q ≤ n + 5 ∧ (q = 2 ∨ q % 2 = 1)) (nu := fun st => n + 5 - st.2.2.toNat) ?_ many _ _ ⟨n, 2, [], rfl, Sr.start hn, by omega, .inl rfl⟩ (lt_many (by show n + 5 - 2 < _; omega))
    rintro st s k P ⟨m, q, l, rfl, hs, hq, hw⟩ hk
    have hmn := Nat.le_of_dvd hn hs.md
    have hm0 := hs.m0
    have hq2 := hs.q2
    refine tt_grd.mpr ⟨⟨sm_nat (by show q ≤ _; omega), sm_nat (by show q ≤ _; omega)⟩, hk _ _ (fun ht => ?_) (fun ht => ?_)⟩
    · have ht : q * q ≤ m := by
        have : (q : Int) * (q : Int) ≤ (m : Int) := by simpa using ht
        exact_mod_cast this
      have hqm : q * 1 < q * q := Nat.mul_lt_mul_of_pos_left (by omega) (by omega)
      have hle := nx2_le q
      refine tt_bnd.mpr (Tt.then (out_loop (P := fun st1 _ => st1 = (((m / q ^ vp q m : Nat) : Int), (vp q m : Int))) hs.q2 (by omega) hs.m0 (by omega) rfl) fun st1 _ e1 => ?_)
      subst e1
      have hfew := hs.few hn h64
      by_cases z : m % q = 0
      · have := vp_pos hs.m0 hs.q2 (Nat.dvd_of_mod_eq_zero z)
        rw [if_pos (show decide ((0 : Int) < (vp q m : Int)) = true by rw [decide_eq_true_iff]; omega)]
        refine tt_bind.mpr (tt_grd.mpr ⟨by simp, tt_pure.mpr (tt_grd.mpr ⟨by show (pfi l).length + 1 ≤ _; rw [pfi_len]; omega, tt_bnd.mpr (tt_bnd.mpr (tt_pure.mpr ⟨⟨m / q ^ vp q m, nx2 q, l ++ [(q, vp q m)], ?_, (hs.out z).nx2 hq2 hw, by omega, .inr (nx2_odd hw)⟩, ?_⟩))⟩)⟩)
        · rw [nx2_int, pfi_app]; rfl
        · show n + 5 - Int.toNat (if decide ((q : Int) = (2 : Int)) = true then (q : Int) + (1 : Int) else (q : Int) + (2 : Int)) < n + 5 - (q : Int).toNat
          rw [nx2_int]; omega
      · rw [vp_no z, Nat.pow_zero, Nat.div_one, if_neg (show ¬ decide ((0 : Int) < ((0 : Nat) : Int)) = true by decide)]
        refine tt_bind.mpr (tt_grd.mpr ⟨by simp, tt_pure.mpr (tt_grd.mpr ⟨by show (pfi l).length + 0 ≤ _; rw [pfi_len]; omega, tt_bnd.mpr (tt_bnd.mpr (tt_pure.mpr ⟨⟨m, nx2 q, l, ?_, (hs.no z).nx2 hq2 hw, by omega, .inr (nx2_odd hw)⟩, ?_⟩))⟩)⟩)
        · rw [nx2_int, List.append_nil]
        · show n + 5 - Int.toNat (if decide ((q : Int) = (2 : Int)) = true then (q : Int) + (1 : Int) else (q : Int) + (2 : Int)) < n + 5 - (q : Int).toNat
          rw [nx2_int]; omega
    · refine ⟨m, q, l, rfl, hs, ?_⟩
      have : ¬ (q : Int) * (q : Int) ≤ (m : Int) := by simpa using ht
      have : ¬ q * q ≤ m := fun y => this (by exact_mod_cast y)
      omega
  · obtain ⟨m, q, l, rfl, hs, hlt⟩ := h
    have hfew := hs.few hn h64
    rw [← hs.last (hs.done hlt) hn h64, pfi_app]
    by_cases z : 1 < m
    · rw [if_pos (show decide ((1 : Int) < (m : Int)) = true by rw [decide_eq_true_iff]; omega), if_pos z]
      refine tt_bind.mpr (tt_grd.mpr ⟨by simp, tt_pure.mpr (tt_grd.mpr ⟨by show (pfi l).length + 1 ≤ _; rw [pfi_len]; omega, tt_bnd.mpr (tt_pure.mpr rfl)⟩)⟩)
    · rw [if_neg (show ¬ decide ((1 : Int) < (m : Int)) = true by rw [decide_eq_true_iff]; omega), if_neg z]
      refine tt_bind.mpr (tt_grd.mpr ⟨by simp, tt_pure.mpr (tt_grd.mpr ⟨by show (pfi l).length + 0 ≤ _; rw [pfi_len]; omega, tt_bnd.mpr (tt_pure.mpr rfl)⟩)⟩)
/-- the program's next one -/
def nx6 (q : Nat) : Nat := q + (if q = 2 then 1 else if q = 3 ∨ q % 6 = 5 then 2 else 4)
def Wh (q : Nat) : Prop := q = 2 ∨ q = 3 ∨ q % 6 = 5 ∨ (q % 6 = 1 ∧ 5 ≤ q)
theorem Wh.nx6 {q : Nat} (h : Wh q) : Wh (Wk.nx6 q) := by
  unfold Wh at h
  unfold Wk.nx6 Wh
  split
  · omega
  · split <;> omega
theorem nx6_le (q : Nat) : q < nx6 q ∧ nx6 q ≤ q + 4 := by
  unfold nx6
  split
  · omega
  · split <;> omega
theorem Sr.nx6 {n m q : Nat} {l : List (Nat × Nat)} (h : Sr n m (q + 1) l) (hq : 2 ≤ q) (hw : Wh q) : Sr n m (Wk.nx6 q) l := by
  unfold Wh at hw
  unfold Wk.nx6
  by_cases z : q = 2
  · rw [if_pos z]; exact h
  · rw [if_neg z]
    have h2 := h.skip (not_pr (d := 2) (by decide) (by omega) (by omega))
    by_cases y : q = 3 ∨ q % 6 = 5
    · rw [if_pos y]; exact h2
    · rw [if_neg y]
      exact (h2.skip (not_pr (d := 3) (by decide) (by omega) (by omega))).skip (not_pr (d := 2) (by decide) (by omega) (by omega))
theorem primes_of_ok {n : Nat} (hn : 0 < n) (h14 : n < 10 ^ 14) (hip : ∀ m, m ∣ n → isp m = true → Pr m) : m_primes_of n = some (pfi (pf n)) := by
  unfold m_primes_of
  refine tt_eq (tt_grd.mpr ⟨by simp, tt_bnd.mpr (tt_bnd.mpr (Tt.then (P' := fun o _ => match o with
      | .go st => ∃ (m q : Nat) (l : List (Nat × Nat)), st = ((m : Int), pfi l, (q : Int)) ∧ ∃ q', Sr n m q' l ∧ (m = 1 ∨ Pr m)
      | .brk st => ∃ (m q : Nat) (l : List (Nat × Nat)), st = ((m : Int), pfi l, (q : Int)) ∧ ∃ q', Sr n m q' l ∧ (m = 1 ∨ Pr m)
      | .ret _ => False) ?_ fun o _ h => ?_))⟩)
  · refine Tt.whC (I := fun (st : Int × (List (Int × Int)) × Int) _ => ∃ (m q : Nat) (l : List (Nat × Nat)), st = ((m : Int), pfi l, (q : Int)) ∧ Sr n m q l ∧ q ≤ n + 5 ∧ Wh q) (nu := fun st => n + 5 - st.2.2.toNat) ?_ many _ _ ⟨n, 2, [], rfl, Sr.start hn, by omega, .inl rfl⟩ (lt_many (by show n + 5 - 2 < _; omega))
    rintro st s k P ⟨m, q, l, rfl, hs, hq, hw⟩ hk
    have hmn := Nat.le_of_dvd hn hs.md
    have hm0 := hs.m0
    have hq2 := hs.q2
    refine tt_grd.mpr ⟨⟨sm_nat (by show q ≤ _; omega), sm_nat (by show q ≤ _; omega)⟩, hk _ _ (fun ht => ?_) (fun ht => ?_)⟩
    · have ht : q * q ≤ m := by
        have : (q : Int) * (q : Int) ≤ (m : Int) := by simpa using ht
        exact_mod_cast this
      have hqm : q * 1 < q * q := Nat.mul_lt_mul_of_pos_left (by omega) (by omega)
      have hle := nx6_le q
      have hfew := hs.few hn (by omega)
      have step : ∀ {β : Type} {b : Bool} {m' : Int} {x : List (Int × Int)} {P : Ctl β (Int × (List (Int × Int)) × Int) → Unit → Prop}, P (.go (m', x, ((nx6 q : Nat) : Int))) () →
          Tt () ((if (decide ((q : Int) = (2 : Int))) = true then pure (1 : Int) else (if (decide ((q : Int) = (3 : Int))) = true then pure true else Mir.lft (grd (0 < (6 : Int))) >>= fun _ => pure (decide (((q : Int) % (6 : Int)) = (5 : Int)))) >>= fun b => pure (if b = true then (2 : Int) else (4 : Int))) >>= fun c => bnd ((q : Int) + c) fun p => (pure (Ctl.go (m', x, p)) : Option (Ctl β (Int × (List (Int × Int)) × Int)))) P := by
        intro β b m' x P h
        unfold nx6 at h
        by_cases z : q = 2
        · rw [if_pos (show decide ((q : Int) = 2) = true by rw [decide_eq_true_iff]; omega)]
          rw [if_pos z] at h
          exact tt_bind.mpr (tt_pure.mpr (tt_bnd.mpr (tt_pure.mpr h)))
        · rw [if_neg (show ¬ decide ((q : Int) = 2) = true by rw [decide_eq_true_iff]; omega)]
          rw [if_neg z] at h
          by_cases y : q = 3
          · rw [if_pos (show decide ((q : Int) = 3) = true by rw [decide_eq_true_iff]; omega)]
            rw [if_pos (.inl y)] at h
            exact tt_bind.mpr (tt_bind.mpr (tt_pure.mpr (tt_pure.mpr (tt_bnd.mpr (tt_pure.mpr h)))))
          · rw [if_neg (show ¬ decide ((q : Int) = 3) = true by rw [decide_eq_true_iff]; omega)]
            refine tt_bind.mpr (tt_bind.mpr (tt_grd.mpr ⟨by decide, tt_pure.mpr (tt_pure.mpr (tt_bnd.mpr (tt_pure.mpr ?_)))⟩))
            by_cases w : q % 6 = 5
            · rw [if_pos (show decide ((q : Int) % 6 = 5) = true by rw [decide_eq_true_iff]; omega)]
              rw [if_pos (.inr w)] at h
              exact h
            · rw [if_neg (show ¬ decide ((q : Int) % 6 = 5) = true by rw [decide_eq_true_iff]; omega)]
              rw [if_neg (by omega)] at h
              exact h
      refine tt_grd.mpr ⟨by show (0 : Int) < (q : Int); omega, ?_⟩
      by_cases z : m % q = 0
      · rw [if_pos (show decide ((m : Int) % (q : Int) = 0) = true by rw [decide_eq_true_iff]; omega)]
        refine (tt_lft (taken_out_ok hq2 (by omega) hm0 (by omega))).mpr (tt_bnd.mpr (tt_grd.mpr ⟨by show (pfi l).length < _; rw [pfi_len]; omega, tt_bnd.mpr ?_⟩))
        have hso := hs.out z
        have hdv := Nat.le_of_dvd hn hso.md
        refine (tt_lft (is_prime_number_ok (by omega))).mpr ?_
        cases e : isp (m / q ^ vp q m) with
        | true =>
          refine Tt.pos rfl (tt_pure.mpr ⟨_, q, l ++ [(q, vp q m)], ?_, q + 1, hso, .inr (hip _ hso.md e)⟩)
          rw [pfi_app]; rfl
        | false =>
          refine Tt.neg (by decide) (Tt.then (P' := fun b _ => b = false) ?_ ?_)
          · by_cases w : q = 1009
            · refine Tt.pos (by rw [decide_eq_true_iff]; show (q : Int) = 1009; omega) ((tt_lft (is_prime_number_ok (by omega))).mpr (tt_pure.mpr e))
            · exact Tt.neg (by rw [decide_eq_true_iff]; show ¬ (q : Int) = 1009; omega) (tt_pure.mpr rfl)
          · rintro b _ rfl
            refine Tt.neg (by decide) (step (b := false) ?_)
            refine ⟨⟨m / q ^ vp q m, nx6 q, l ++ [(q, vp q m)], ?_, hso.nx6 hq2 hw, by omega, hw.nx6⟩, by show n + 5 - ((nx6 q : Nat) : Int).toNat < n + 5 - (q : Int).toNat; omega⟩
            rw [pfi_app]; rfl
      · rw [if_neg (show ¬ decide ((m : Int) % (q : Int) = 0) = true by rw [decide_eq_true_iff]; omega)]
        refine Tt.then (P' := fun b _ => b = true → Pr m) ?_ ?_
        · by_cases w : q = 1009
          · refine Tt.pos (by rw [decide_eq_true_iff]; show (q : Int) = 1009; omega) ((tt_lft (is_prime_number_ok (by omega))).mpr (tt_pure.mpr fun e => hip _ hs.md e))
          · exact Tt.neg (by rw [decide_eq_true_iff]; show ¬ (q : Int) = 1009; omega) (tt_pure.mpr fun e => nomatch e)
        · intro b _ hb
          cases b with
          | true => exact Tt.pos rfl (tt_pure.mpr ⟨m, q, l, rfl, q, hs, .inr (hb rfl)⟩)
          | false =>
            refine Tt.neg (by decide) (step (b := false) ?_)
            exact ⟨⟨m, nx6 q, l, rfl, (hs.no z).nx6 hq2 hw, by omega, hw.nx6⟩, by show n + 5 - ((nx6 q : Nat) : Int).toNat < n + 5 - (q : Int).toNat; omega⟩
    · refine ⟨m, q, l, rfl, q, hs, hs.done ?_⟩
      have : ¬ (q : Int) * (q : Int) ≤ (m : Int) := by simpa using ht
      have : ¬ q * q ≤ m := fun y => this (by exact_mod_cast y)
      omega
  · have fin : ∀ st : Int × (List (Int × Int)) × Int, (∃ (m q : Nat) (l : List (Nat × Nat)), st = ((m : Int), pfi l, (q : Int)) ∧ ∃ q', Sr n m q' l ∧ (m = 1 ∨ Pr m)) →
        Tt () ((if (decide ((1 : Int) < st.1)) = true then Mir.lft (grd (List.length ([(st.1, (1 : Int))] : List (Int × Int)) ≤ 16000000)) >>= fun _ => pure ([(st.1, (1 : Int))] : List (Int × Int)) else Mir.lft (grd (List.length ([] : List (Int × Int)) ≤ 16000000)) >>= fun _ => pure ([] : List (Int × Int))) >>= fun c => Mir.lft (grd (List.length st.2.1 + List.length c ≤ 16000000)) >>= fun _ => bnd (st.2.1 ++ c) fun r => (pure r : Option (List (Int × Int)))) fun a _ => a = pfi (pf n) := by
      rintro st ⟨m, q, l, rfl, q', hs, hlast⟩
      have hfew := hs.few hn (by omega)
      rw [← hs.last hlast hn (by omega), pfi_app]
      by_cases z : 1 < m
      · rw [if_pos (show decide ((1 : Int) < (m : Int)) = true by rw [decide_eq_true_iff]; omega), if_pos z]
        refine tt_bind.mpr (tt_grd.mpr ⟨by simp, tt_pure.mpr (tt_grd.mpr ⟨by show (pfi l).length + 1 ≤ _; rw [pfi_len]; omega, tt_bnd.mpr (tt_pure.mpr rfl)⟩)⟩)
      · rw [if_neg (show ¬ decide ((1 : Int) < (m : Int)) = true by rw [decide_eq_true_iff]; omega), if_neg z]
        refine tt_bind.mpr (tt_grd.mpr ⟨by simp, tt_pure.mpr (tt_grd.mpr ⟨by show (pfi l).length + 0 ≤ _; rw [pfi_len]; omega, tt_bnd.mpr (tt_pure.mpr rfl)⟩)⟩)
    cases o with
    | go st => exact fin st h
    | brk st => exact fin st h
    | ret _ => exact h.elim
end Wk
set_option Elab.async false
set_option maxRecDepth 100000
set_option maxHeartbeats 4000000
set_option linter.all false
/-! P6: draws of a pot that is a list -/
namespace Wk
open PySem L2
open PyProof.Rows hiding St
theorem of_ok {s : PotT} {b : Nat} {m : Int} (h : Pot s (b + 1)) (hm : 0 < m) (hm2 : m < 2 ^ 900) : Tt s (m__law_of m) fun a s1 => 0 ≤ a ∧ a < m ∧ Pot s1 b := by
  have hdv : Dv m := dv_of hm (Int.lt_trans hm2 (by decide +kernel))
  unfold m__law_of
  by_cases h1 : m < 2
  · exact Tt.pos (by rw [decide_eq_true_iff]; exact h1) (tt_bnd.mpr (tt_pure.mpr ⟨Int.le_refl _, hm, h.le (by omega)⟩))
  refine Tt.neg (by rw [decide_eq_true_iff]; exact h1) (tt_bind.mpr ⟨s, s, rfl, ?_⟩)
  obtain ⟨g, x, t⟩ := s
  have hl := h.l
  have m0 := h.m0
  have m1 := h.m1
  have t0 := h.t0
  have t1 := h.t1
  have hg := h.g
  dsimp only at hl m0 m1 t0 t1 hg
  cases e : g.getLast? with
  | some c =>
    have hne : g ≠ [] := by rintro rfl; cases e
    have hc : 0 ≤ c := hg c (List.mem_of_getLast? e)
    have hr : ∀ d ∈ g.dropLast, 0 ≤ d := fun d hd => hg d (List.dropLast_subset g hd)
    have hdl : g.dropLast.length = g.length - 1 := List.length_dropLast
    have hl1 : 1 ≤ g.length := List.length_pos_iff.mpr hne
    refine Tt.pos (by unfold neG; cases g with | nil => exact absurd rfl hne | cons _ _ => rfl) (tt_bind.mpr ⟨c, ⟨g.dropLast, x, t⟩, by show popL _ = _; unfold popL; rw [e], tt_bnd.mpr ?_⟩)
    refine Tt.then (P' := fun _ s1 => Pot s1 b) ?_ ?_
    · by_cases z : m ≤ c
      · refine Tt.pos (by rw [decide_eq_true_iff]; exact z) (tt_grd.mpr ⟨hdv, tt_bind.mpr ⟨_, _, rfl, tt_grd.mpr ⟨by show g.dropLast.length < 16000000; omega, tt_bind.mpr ⟨(), _, rfl, tt_pure.mpr ?_⟩⟩⟩⟩)
        refine ⟨fun d hd => ?_, by show (g.dropLast ++ [c / m]).length ≤ 100; rw [List.length_append]; simp; omega, m0, m1, t0, by show t + (b : Int) ≤ _; omega⟩
        rcases List.mem_append.mp hd with e | hd
        · exact hr d e
        · rw [List.mem_singleton.mp hd]; exact Int.ediv_nonneg hc (by omega)
      · exact Tt.neg (by rw [decide_eq_true_iff]; exact z) (tt_pure.mpr ⟨hr, by show g.dropLast.length ≤ 100; omega, m0, m1, t0, by show t + (b : Int) ≤ _; omega⟩)
    · intro _ s1 q
      exact tt_grd.mpr ⟨hm, tt_bnd.mpr (tt_pure.mpr ⟨Int.emod_nonneg _ (by omega), Int.emod_lt_of_pos _ hm, q⟩)⟩
  | none =>
    have hg0 : g = [] := List.getLast?_eq_none_iff.mp e
    subst hg0
    have b1 : t + 1 ≤ 10 ^ 9 := by omega
    refine Tt.neg (by show ¬ (false = true); decide) ?_
    refine tt_bind.mpr ⟨_, _, rfl, tt_bind.mpr ⟨(), _, rfl, tt_bind.mpr ⟨_, _, rfl, tt_bind.mpr ⟨_, _, rfl, ?_⟩⟩⟩⟩
    show Tt (PotT.mk [] x (t + 1)) (Mir.lft (grd (Sm (t + 1) ∧ Sm (2654435761 : Int))) >>= _) _
    have c1 : 0 ≤ (x + (t + 1) * 2654435761) % 4294967279 ∧ (x + (t + 1) * 2654435761) % 4294967279 < 4294967279 := ⟨Int.emod_nonneg _ (by decide), Int.emod_lt_of_pos _ (by decide)⟩
    refine tt_grd.mpr ⟨⟨sm_small (by omega), sm_small (by decide)⟩, tt_grd.mpr ⟨by decide, tt_bnd.mpr ?_⟩⟩
    show Tt (PotT.mk [] x (t + 1)) (Mir.lft (grd (Sm ((x + (t + 1) * 2654435761) % 4294967279) ∧ Sm ((x + (t + 1) * 2654435761) % 4294967279))) >>= _) _
    generalize (x + (t + 1) * 2654435761) % 4294967279 = y at c1 ⊢
    refine tt_grd.mpr ⟨⟨sm_small (by omega), sm_small (by omega)⟩, tt_bind.mpr ⟨_, _, rfl, tt_grd.mpr ⟨⟨sm_small (by show (t + 1).natAbs ≤ _; omega), sm_small (by decide)⟩, tt_grd.mpr ⟨by decide, tt_bnd.mpr ?_⟩⟩⟩⟩
    show Tt (PotT.mk [] x (t + 1)) (Mir.lft (grd (Sm ((y * y + (t + 1) * 40503 + 5) % 4294967231) ∧ Sm ((y * y + (t + 1) * 40503 + 5) % 4294967231))) >>= _) _
    have c2 : 0 ≤ (y * y + (t + 1) * 40503 + 5) % 4294967231 ∧ (y * y + (t + 1) * 40503 + 5) % 4294967231 < 4294967231 := ⟨Int.emod_nonneg _ (by decide), Int.emod_lt_of_pos _ (by decide)⟩
    generalize (y * y + (t + 1) * 40503 + 5) % 4294967231 = u at c2 ⊢
    refine tt_grd.mpr ⟨⟨sm_small (by omega), sm_small (by omega)⟩, tt_bind.mpr ⟨_, _, rfl, tt_grd.mpr ⟨by decide, tt_bnd.mpr (tt_grd.mpr ⟨dv_of (by decide) (by decide +kernel), tt_grd.mpr ⟨hm, tt_bnd.mpr (tt_pure.mpr ⟨Int.emod_nonneg _ (by omega), Int.emod_lt_of_pos _ hm, ?_⟩)⟩⟩)⟩⟩⟩
    exact ⟨fun d hd => (nomatch hd), Nat.zero_le _, m0, m1, by show 0 ≤ t + 1; omega, by show t + 1 + (b : Int) ≤ _; omega⟩
theorem one_ok {s : PotT} {b : Nat} {row : List Int} (h : Pot s (b + 1)) (h0 : row ≠ []) (hl : row.length ≤ 10000) : Tt s (m__law_one row) fun a s1 => a ∈ row ∧ Pot s1 b := by
  unfold m__law_one
  have hp : 0 < row.length := List.length_pos_iff.mpr h0
  refine (of_ok h (by omega) (Int.lt_of_le_of_lt (b := 10000) (by omega) (by decide +kernel))).then fun a s1 ⟨h1, h2, h3⟩ => ?_
  obtain ⟨n, rfl⟩ : ∃ n : Nat, a = n := ⟨a.toNat, by omega⟩
  have hn : n < row.length := by omega
  rw [tt_lft (show atI row (n : Int) = some row[n] by rw [atI_nat hn, List.getElem?_eq_getElem hn])]
  exact tt_bnd.mpr (tt_pure.mpr ⟨List.getElem_mem hn, h3⟩)
theorem pot_ok {ns : List Int} (hb : ∀ i ∈ ns, Builtin.Int.intBits i ≤ 1048576) (hl : ns.length ≤ 63) : ∃ s, m__law_pot ns = some s ∧ Pot s 900000000 := by
  refine tt_ex ?_
  unfold m__law_pot
  have hlen : (cut ns none (some (63 : Int))).length ≤ 63 := by
    rw [show (63 : Int) = ((63 : Nat) : Int) by rfl, cut_head, List.length_take]; omega
  refine tt_grd.mpr ⟨by omega, ?_⟩
  refine tt_map (g := fun (x1 : Int) => ((2 : Int) * (if x1 < 0 then -x1 else x1)) + (if (decide (x1 < (0 : Int))) = true then (1 : Int) else 0)) (fun x hx s Q hQ => ?_) ?_
  · rw [show (63 : Int) = ((63 : Nat) : Int) by rfl, cut_head] at hx
    have := bits_sm (hb x (List.mem_of_mem_take hx))
    refine tt_grd.mpr ⟨⟨sm_small (by decide), ?_⟩, tt_pure.mpr hQ⟩
    rw [abs_if]; unfold Sm; rw [Int.natAbs_natCast]; omega
  · refine tt_bnd.mpr (tt_grd.mpr ⟨⟨sm_small (by decide), sm_small (by omega)⟩, tt_bnd.mpr (Tt.then (P' := fun st _ => 0 ≤ st ∧ st < 2 ^ 40) ?_ ?_)⟩)
    · refine Tt.lp (I := fun (_ : List Int) (st : Int) (_ : Unit) => 0 ≤ st ∧ st < 2 ^ 40) ?_ _ _ _ ?_
      · rintro x xs st s ⟨h1, h2⟩
        exact tt_grd.mpr ⟨⟨sm_small (by omega), sm_small (by decide)⟩, tt_grd.mpr ⟨by decide, tt_bnd.mpr (tt_pure.mpr ⟨Int.emod_nonneg _ (by decide), Int.lt_of_lt_of_le (Int.emod_lt_of_pos _ (by decide)) (by decide)⟩)⟩⟩
      · exact ⟨by omega, by omega⟩
    · rintro st s1 ⟨h1, h2⟩
      refine tt_grd.mpr ⟨by rw [List.length_map]; omega, ?_⟩
      refine tt_filterMap (g := fun (x : Int) => if (decide (((10 : Int) ^ Int.toNat (12 : Int)) < x)) = true then some x else none) (fun x hx s Q hQ => tt_grd.mpr ⟨by decide, ?_⟩) (tt_bnd.mpr (tt_pure.mpr ?_))
      · by_cases z : decide (((10 : Int) ^ Int.toNat (12 : Int)) < x) = true
        · rw [if_pos z] at hQ; exact Tt.pos z (tt_pure.mpr hQ)
        · rw [if_neg z] at hQ; exact Tt.neg z (tt_pure.mpr hQ)
      · refine ⟨fun c hc => ?_, ?_, h1, h2, by show (0 : Int) ≤ 0; decide, by show (0 : Int) + ((900000000 : Nat) : Int) ≤ _; decide⟩
        · obtain ⟨x, hx, e⟩ := List.mem_filterMap.mp hc
          split at e
          · rename_i z
            have z := of_decide_eq_true z
            cases e
            exact Int.le_trans (by decide) (Int.le_of_lt z)
          · cases e
        · exact Nat.le_trans (List.length_filterMap_le ..) (by rw [List.length_map]; omega)
end Wk
set_option Elab.async false
set_option maxRecDepth 1000000
set_option maxHeartbeats 4000000
set_option linter.all false
/-! P7: the test of primes is right to ten million -/
namespace Wk
def fC (p : Nat) : Bool := Nat.ble p 40 || !pq53 p || chkp 10000000 p
def pcC (a n : Nat) : Bool := (List.range n).all fun i => fC (a + i)
theorem pcC_get {a n p : Nat} (h : pcC a n = true) (h1 : a ≤ p) (h2 : p < a + n) : fC p = true := by
  have := List.all_eq_true.mp h (p - a) (List.mem_range.mpr (by omega))
  rwa [Nat.add_sub_cancel' h1] at this
theorem pcC_0 : pcC 0 42 = true := by decide +kernel
theorem pcC_1 : pcC 42 2 = true := by decide +kernel
theorem pcC_2 : pcC 44 4 = true := by decide +kernel
theorem pcC_3 : pcC 48 6 = true := by decide +kernel
theorem pcC_4 : pcC 54 8 = true := by decide +kernel
theorem pcC_5 : pcC 62 10 = true := by decide +kernel
theorem pcC_6 : pcC 72 12 = true := by decide +kernel
theorem pcC_7 : pcC 84 26 = true := by decide +kernel
theorem pcC_8 : pcC 110 40 = true := by decide +kernel
theorem pcC_9 : pcC 150 70 = true := by decide +kernel
theorem pcC_10 : pcC 220 180 = true := by decide +kernel
theorem pcC_11 : pcC 400 300 = true := by decide +kernel
theorem pcC_12 : pcC 700 500 = true := by decide +kernel
theorem pcC_13 : pcC 1200 800 = true := by decide +kernel
theorem pcC_14 : pcC 2000 1163 = true := by decide +kernel
theorem chk7 : chk 10000000 3162 = true := by
  unfold chk
  rw [List.all_eq_true]
  intro p hp
  have hp := List.mem_range.mp hp
  show fC p = true
  by_cases h0 : p < 42
  · exact pcC_get pcC_0 (by omega) (by omega)
  by_cases h1 : p < 44
  · exact pcC_get pcC_1 (by omega) (by omega)
  by_cases h2 : p < 48
  · exact pcC_get pcC_2 (by omega) (by omega)
  by_cases h3 : p < 54
  · exact pcC_get pcC_3 (by omega) (by omega)
  by_cases h4 : p < 62
  · exact pcC_get pcC_4 (by omega) (by omega)
  by_cases h5 : p < 72
  · exact pcC_get pcC_5 (by omega) (by omega)
  by_cases h6 : p < 84
  · exact pcC_get pcC_6 (by omega) (by omega)
  by_cases h7 : p < 110
  · exact pcC_get pcC_7 (by omega) (by omega)
  by_cases h8 : p < 150
  · exact pcC_get pcC_8 (by omega) (by omega)
  by_cases h9 : p < 220
  · exact pcC_get pcC_9 (by omega) (by omega)
  by_cases h10 : p < 400
  · exact pcC_get pcC_10 (by omega) (by omega)
  by_cases h11 : p < 700
  · exact pcC_get pcC_11 (by omega) (by omega)
  by_cases h12 : p < 1200
  · exact pcC_get pcC_12 (by omega) (by omega)
  by_cases h13 : p < 2000
  · exact pcC_get pcC_13 (by omega) (by omega)
  exact pcC_get pcC_14 (by omega) (by omega)
end Wk
set_option Elab.async false
set_option maxRecDepth 100000
set_option maxHeartbeats 4000000
set_option linter.all false
/-! A87a: sums of divisors -/
namespace Wk
open PySem L2
open PyProof.Rows hiding St
def gs (p : Nat) : Nat → Nat
  | 0 => 1
  | k + 1 => gs p k * p + 1
theorem gs_s (p : Nat) : ∀ k, gs p (k + 1) = gs p k + p ^ (k + 1)
  | 0 => by simp [gs]; omega
  | k + 1 => by
    show gs p (k + 1) * p + 1 = gs p (k + 1) + p ^ (k + 2)
    have h := gs_s p k
    conv => lhs; rw [h]
    rw [Nat.add_mul, ← Nat.pow_succ]
    show gs p k * p + p ^ (k + 2) + 1 = gs p k * p + 1 + p ^ (k + 2)
    omega
theorem gs_ge {p : Nat} : ∀ {k}, 1 ≤ k → p ^ k + 1 ≤ gs p k
  | 1, _ => by simp [gs]
  | k + 2, _ => by
    have h1 : gs p (k + 2) = gs p (k + 1) + p ^ (k + 2) := gs_s p (k + 1)
    have h2 := gs_ge (p := p) (k := k + 1) (by omega)
    omega
theorem gs_le {p : Nat} (hp : 2 ≤ p) : ∀ k, gs p k + 1 ≤ 2 * p ^ k
  | 0 => by simp [gs]
  | k + 1 => by
    have h := gs_le hp k
    have e := gs_s p k
    have : 2 * p ^ k ≤ p ^ (k + 1) := by rw [Nat.pow_succ, Nat.mul_comm]; exact Nat.mul_le_mul_left _ hp
    omega
/-- the sum of the divisors by a parting -/
def sgl (l : List (Nat × Nat)) : Nat := l.foldr (fun y a => gs y.1 y.2 * a) 1
def sg (n : Nat) : Nat := sgl (pf n)
theorem fold_sgl (l : List (Nat × Nat)) : ∀ z, l.foldl (fun a y => a * gs y.1 y.2) z = z * sgl l := by
  induction l with
  | nil => intro z; simp [sgl]
  | cons y l ih => intro z; rw [List.foldl_cons, ih, Nat.mul_assoc]; rfl
def Ok2 (l : List (Nat × Nat)) : Prop := ∀ y ∈ l, 2 ≤ y.1 ∧ 1 ≤ y.2
theorem sgl_ge : ∀ {l}, Ok2 l → prd l ≤ sgl l
  | [], _ => Nat.le_refl _
  | y :: l, h => by
    have h1 := sgl_ge (l := l) fun z hz => h z (List.mem_cons_of_mem _ hz)
    have h2 := gs_ge (p := y.1) (h y (List.mem_cons_self ..)).2
    exact Nat.mul_le_mul (by omega) h1
theorem prd_pos : ∀ {l}, Ok2 l → 1 ≤ prd l
  | [], _ => Nat.le_refl _
  | y :: l, h => by
    have h1 := prd_pos (l := l) fun z hz => h z (List.mem_cons_of_mem _ hz)
    exact Nat.mul_pos (Nat.pow_pos (by have := (h y (List.mem_cons_self ..)).1; omega)) h1
theorem sgl_gt {l} (h : Ok2 l) (hl : l ≠ []) : prd l + 1 ≤ sgl l := by
  cases l with
  | nil => exact absurd rfl hl
  | cons y l =>
    have h0 : Ok2 l := fun z hz => h z (List.mem_cons_of_mem _ hz)
    have h1 := sgl_ge h0
    have h3 := prd_pos h0
    have h2 := gs_ge (p := y.1) (h y (List.mem_cons_self ..)).2
    show y.1 ^ y.2 * prd l + 1 ≤ gs y.1 y.2 * sgl l
    have : (y.1 ^ y.2 + 1) * prd l ≤ gs y.1 y.2 * sgl l := Nat.mul_le_mul h2 h1
    rw [Nat.add_mul, Nat.one_mul] at this
    omega
theorem sgl_le : ∀ {l}, Ok2 l → sgl l ≤ 2 ^ l.length * prd l
  | [], _ => Nat.le_refl _
  | y :: l, h => by
    have h1 := sgl_le (l := l) fun z hz => h z (List.mem_cons_of_mem _ hz)
    have h2 := gs_le (h y (List.mem_cons_self ..)).1 y.2
    have h3 : gs y.1 y.2 * sgl l ≤ (2 * y.1 ^ y.2) * (2 ^ l.length * prd l) := Nat.mul_le_mul (by omega) h1
    show gs y.1 y.2 * sgl l ≤ 2 ^ (l.length + 1) * (y.1 ^ y.2 * prd l)
    refine Nat.le_trans h3 (Nat.le_of_eq ?_)
    rw [Nat.pow_succ]
    simp only [Nat.mul_assoc, Nat.mul_left_comm, Nat.mul_comm]
theorem pf_ok2 {n : Nat} (hn : 0 < n) (h : n < 2 ^ 64) : Ok2 (pf n) := fun y hy => by
  obtain ⟨a, b⟩ := y
  have := (pf_ok hn h).low hn hy
  exact ⟨this.1, this.2.2.1⟩
theorem pf_prd {n : Nat} (hn : 0 < n) (h : n < 2 ^ 64) : prd (pf n) = n := PF.prd hn (pf_ok hn h)
theorem sg_ge {n : Nat} (hn : 0 < n) (h : n < 2 ^ 64) : n ≤ sg n := by
  have := sgl_ge (pf_ok2 hn h)
  rw [pf_prd hn h] at this
  exact this
theorem sg_gt {n : Nat} (hn : 2 ≤ n) (h : n < 2 ^ 64) : n + 1 ≤ sg n := by
  have := sgl_gt (pf_ok2 (by omega) h) (fun e => by
    have := pf_prd (n := n) (by omega) h
    rw [e] at this
    have : (1 : Nat) = n := this
    omega)
  rw [pf_prd (by omega) h] at this
  exact this
theorem sg_le {n : Nat} (hn : 0 < n) (h : n < 2 ^ 64) : sg n ≤ n * n := by
  have h1 := sgl_le (pf_ok2 hn h)
  rw [pf_prd hn h] at h1
  exact Nat.le_trans h1 (Nat.mul_le_mul_right _ ((pf_ok hn h).len hn))
theorem three_pow : ∀ {l : List (Nat × Nat)}, (∀ y ∈ l, 3 ≤ y.1 ∧ 1 ≤ y.2) → 3 ^ l.length ≤ prd l
  | [], _ => Nat.le_refl _
  | y :: l, h => by
    have h1 := three_pow (l := l) fun z hz => h z (List.mem_cons_of_mem _ hz)
    have h2 := h y (List.mem_cons_self ..)
    have h3 : 3 ≤ y.1 ^ y.2 := Nat.le_trans h2.1 (Nat.le_self_pow (by omega) _)
    show 3 ^ (l.length + 1) ≤ y.1 ^ y.2 * prd l
    rw [Nat.pow_succ, Nat.mul_comm]
    exact Nat.mul_le_mul h3 h1
/-- few enough for small ones -/
theorem sg_small {n : Nat} (hn : 0 < n) (h : n ≤ 14316) : sg n ≤ 512 * n := by
  have h64 : n < 2 ^ 64 := by omega
  have hp := pf_ok hn h64
  have ho := pf_ok2 hn h64
  have hd := pf_prd hn h64
  have h1 := sgl_le ho
  rw [hd] at h1
  refine Nat.le_trans h1 (Nat.mul_le_mul_right _ ?_)
  cases e : pf n with
  | nil => decide
  | cons y l =>
    rw [e] at hp ho hd
    have hs := List.pairwise_cons.mp hp.s
    have h3 : ∀ z ∈ l, 3 ≤ z.1 ∧ 1 ≤ z.2 := fun z hz => by
      have a := hs.1 z hz
      have b := (ho y (List.mem_cons_self ..)).1
      exact ⟨by omega, (ho z (List.mem_cons_of_mem _ hz)).2⟩
    have h4 := three_pow h3
    have h5 : 2 ≤ y.1 ^ y.2 := Nat.le_trans (ho y (List.mem_cons_self ..)).1 (Nat.le_self_pow (by have := (ho y (List.mem_cons_self ..)).2; omega) _)
    have h6 : 2 * 3 ^ l.length ≤ n := by
      rw [← hd]
      exact Nat.mul_le_mul h5 h4
    have h7 : 3 ^ l.length < 3 ^ 9 := by omega
    have h8 := (Nat.pow_lt_pow_iff_right (by decide : 1 < 3)).mp h7
    rw [List.length_cons]
    exact Nat.pow_le_pow_right (n := 2) (by decide) (show l.length + 1 ≤ 9 by omega)
theorem sg_prime {n : Nat} (hn : 2 ≤ n) (h : n < 2 ^ 64) : sg n = n + 1 ↔ Pr n := by
  have hp := pf_ok (n := n) (by omega) h
  have ho := pf_ok2 (n := n) (by omega) h
  have hd := pf_prd (n := n) (by omega) h
  constructor
  · intro e
    unfold sg at e
    cases c : pf n with
    | nil => rw [c] at hd; have : (1 : Nat) = n := hd; omega
    | cons y l =>
      rw [c] at e hp ho hd
      obtain ⟨p, k⟩ := y
      have ht := hp.tail (by omega)
      have hk := (ho (p, k) (List.mem_cons_self ..)).2
      have hp2 := (ho (p, k) (List.mem_cons_self ..)).1
      have o2 : Ok2 l := fun z hz => ho z (List.mem_cons_of_mem _ hz)
      have hd : p ^ k * prd l = n := hd
      have e : gs p k * sgl l = n + 1 := e
      have hg := gs_ge (p := p) hk
      by_cases z : l = []
      · subst z
        have e : gs p k * 1 = n + 1 := e
        have hd : p ^ k * 1 = n := hd
        rcases k with _ | _ | k
        · have hk : 1 ≤ 0 := hk
          omega
        · rw [Nat.mul_one, Nat.zero_add, Nat.pow_one] at hd
          rw [← hd]; exact ht.1
        · exfalso
          have h1 := gs_s p (k + 1)
          have h2 := gs_ge (p := p) (k := k + 1) (by omega)
          have h3 : 1 ≤ p ^ (k + 1) := Nat.pow_pos (by have : 2 ≤ p := hp2; omega)
          rw [Nat.mul_one] at e hd
          have : p ^ (k + 1 + 1) = n := hd
          omega
      · exfalso
        have h1 := sgl_gt o2 z
        have h2 : (p ^ k + 1) * (prd l + 1) ≤ gs p k * sgl l := Nat.mul_le_mul hg h1
        have h3 := prd_pos o2
        rw [Nat.add_mul, Nat.mul_add, Nat.one_mul, Nat.mul_one, hd] at h2
        omega
  · intro hP
    unfold sg
    rw [PF.uniq hp (PF.prime hP)]
    show gs n 1 * 1 = n + 1
    simp [gs]
end Wk
set_option Elab.async false
set_option maxRecDepth 100000
set_option maxHeartbeats 4000000
set_option linter.all false
/-! A87b: sums of divisors, as the program and the law make them -/
namespace Wk
open PySem L2
open PyProof.Rows hiding St
/-- a loop over items that stand for others -/
theorem Tt.fold {μ : Type → Type} {τ : Type} [Mir μ τ] {α ζ X Z : Type} {f : α → ζ → μ ζ} (ex : X → α) (ez : Z → ζ) (g : Z → X → Z) (I : Z → List X → Prop)
    (h : ∀ x xs z s (P : ζ → τ → Prop), I z (x :: xs) → (I (g z x) xs → P (ez (g z x)) s) → Tt s (f (ex x) (ez z)) P) :
    ∀ (l : List X) (z : Z) (s : τ) {P : ζ → τ → Prop}, I z l → (I (l.foldl g z) [] → P (ez (l.foldl g z)) s) → Tt s (lpS (l.map ex) f (ez z)) P
  | [], z, s, P, hI, hP => tt_pure.mpr (hP hI)
  | x :: l, z, s, P, hI, hP => tt_bind.mpr (h x l z s _ hI fun hI' => Tt.fold ex ez g I h l (g z x) s hI' hP)
/-- a product over a list -/
theorem Tt.prod8 {α X : Type} {f : α → Int → Option Int} (ex : X → α) (g : X → Nat) (l : List X) (hl : l.length ≤ 100) (hb : ∀ x ∈ l, g x ≤ 10 ^ 8)
    (hf : ∀ x ∈ l, ∀ (z : Nat) (P : Int → Unit → Prop), Sm (z : Int) → P ((z * g x : Nat) : Int) () → Tt () (f (ex x) (z : Int)) P) {P : Int → Unit → Prop}
    (hP : P ((l.foldl (fun a x => a * g x) 1 : Nat) : Int) ()) : Tt () (lpS (l.map ex) f (1 : Int)) P := by
  refine Tt.fold (μ := Option) (f := f) ex (fun z : Nat => (z : Int)) (fun a x => a * g x) (fun z r => z ≤ 10 ^ (8 * (100 - r.length)) ∧ r.length ≤ 100 ∧ ∀ x ∈ r, x ∈ l) ?_ l 1 () ⟨Nat.pow_pos (by decide), hl, fun x hx => hx⟩ fun h => hP
  rintro x xs z s P ⟨h1, h2, h3⟩ hk
  rw [List.length_cons] at h1 h2
  have hx := h3 x (List.mem_cons_self ..)
  refine hf x hx z P (sm_pow h1 (by omega)) (hk ⟨?_, by omega, fun y hy => h3 y (List.mem_cons_of_mem _ hy)⟩)
  have : 10 ^ (8 * (100 - xs.length)) = 10 ^ (8 * (100 - (xs.length + 1))) * 10 ^ 8 := by rw [← Nat.pow_add]; congr 1; omega
  rw [this]
  exact Nat.mul_le_mul h1 (hb x hx)
theorem raised_ok {p k : Nat} (hp : 1 ≤ p) (h : p ^ k ≤ 10 ^ 30) (hk : k ≤ 1000) : m__law_raised p k = some ((p ^ k : Nat) : Int) := by
  unfold m__law_raised
  refine tt_eq (tt_bnd.mpr (tt_grd.mpr ⟨⟨by omega, by omega⟩, Tt.then (P' := fun st _ => st = ((p ^ k : Nat) : Int)) ?_ fun st _ e => tt_bnd.mpr (tt_pure.mpr e)⟩))
  refine (Tt.rg (I := fun (x : Int) (st : Int) _ => ∃ y : Nat, x = y ∧ y ≤ k ∧ st = ((p ^ y : Nat) : Int)) ?_ k 0 _ _ (by omega) ⟨0, rfl, by omega, by rw [Nat.pow_zero]; rfl⟩).mono fun st _ ⟨y, e, _, e2⟩ => by
    have : y = k := by omega
    rw [e2, this]
  rintro x st s hx ⟨y, rfl, hy, rfl⟩
  have h1 : p ^ y ≤ p ^ k := Nat.pow_le_pow_right hp hy
  by_cases z : k = 0
  · omega
  have h2 : p ≤ p ^ k := Nat.le_self_pow z p
  exact tt_grd.mpr ⟨⟨sm_nat (by omega), sm_nat (by omega)⟩, tt_bnd.mpr (tt_pure.mpr ⟨y + 1, by push_cast; rfl, by omega, by rw [Nat.pow_succ]; push_cast; rfl⟩)⟩
theorem power_of_ok {p k : Nat} (hp : 1 ≤ p) (h : p ^ k ≤ 10 ^ 30) (hk : k ≤ 1000) : m_power_of p k = some ((p ^ k : Nat) : Int) := by
  have e : m_power_of p k = m__law_raised p k := by unfold m_power_of m__law_raised; rfl
  rw [e, raised_ok hp h hk]
/-- what is known of a parting's items -/
theorem pf_it {n : Nat} (hn : 0 < n) (h : n ≤ 4 * 10 ^ 7) : ∀ y ∈ pf n, 2 ≤ y.1 ∧ 1 ≤ y.2 ∧ y.1 ^ y.2 ≤ 4 * 10 ^ 7 ∧ y.2 ≤ 60 := fun ⟨q, k⟩ hm => by
  have hp := pf_ok hn (by omega)
  have h1 := hp.low hn hm
  have hv := (hp.m q k).mp hm
  have h2 : q ^ k ∣ n := by rw [hv.2.2]; exact vp_dvd h1.1 hn
  have h3 := Nat.le_of_dvd hn h2
  refine ⟨h1.1, h1.2.2.1, by show q ^ k ≤ _; omega, ?_⟩
  have h4 : 2 ^ k ≤ q ^ k := Nat.pow_le_pow_left h1.1 k
  have h5 : k < 26 := (Nat.pow_lt_pow_iff_right (by decide : 1 < 2)).mp (by omega)
  show k ≤ 60
  omega
theorem pf_len7 {n : Nat} (hn : 0 < n) (h : n ≤ 4 * 10 ^ 7) : (pf n).length ≤ 100 := by
  have := (pf_ok hn (by omega)).len hn
  have : (pf n).length < 26 := (Nat.pow_lt_pow_iff_right (by decide : 1 < 2)).mp (by omega)
  omega
theorem gs_loop {p k : Nat} (hp : 2 ≤ p) (hk : k ≤ 60) (h : p ^ k ≤ 4 * 10 ^ 7) (h1 : 1 ≤ k) {P : Int → Unit → Prop} (hP : P ((gs p k : Nat) : Int) ()) :
    Tt () (lpS (rng 0 (k : Int)) (fun (x : Int) (st : Int) => Mir.lft (grd (Sm st ∧ Sm (p : Int))) >>= fun _ => bnd (st * (p : Int) + (1 : Int)) fun part => pure part) (1 : Int) : Option Int) P := by
  refine (Tt.rg (I := fun (x : Int) (st : Int) _ => ∃ y : Nat, x = y ∧ y ≤ k ∧ st = ((gs p y : Nat) : Int)) ?_ k 0 _ _ (by omega) ⟨0, rfl, by omega, rfl⟩).mono fun st s ⟨y, e, _, e2⟩ => by
    have : y = k := by omega
    rw [e2, this]; exact hP
  rintro x st s hx ⟨y, rfl, hy, rfl⟩
  have h2 : p ^ y ≤ p ^ k := Nat.pow_le_pow_right (by omega) hy
  have h3 := gs_le hp y
  have h4 : p ≤ p ^ k := Nat.le_self_pow (by omega) p
  exact tt_grd.mpr ⟨⟨sm_nat (by omega), sm_nat (by omega)⟩, tt_bnd.mpr (tt_pure.mpr ⟨y + 1, by push_cast; rfl, by omega, by show _ = ((gs p y * p + 1 : Nat) : Int); push_cast; rfl⟩)⟩
theorem rgb_nat {k : Nat} (h : k ≤ 10 ^ 15) : RgB (k : Int) := ⟨by omega, by omega⟩
def pairI (y : Nat × Nat) : Int × Int := ((y.1 : Int), (y.2 : Int))
/-- the numbers looked at -/
structure NB (n : Nat) : Prop where
  p : 0 < n
  b : n ≤ 4 * 10 ^ 7
  i : ∀ m, m ∣ n → isp m = true → Pr m
theorem NB.of {n : Nat} (hn : 0 < n) (h : n ≤ 10 ^ 7) : NB n := ⟨hn, by omega, fun m hd hi => isp_right chk7 (by decide) (by decide) (Nat.le_trans (Nat.le_of_dvd hn hd) h) hi⟩
theorem NB.dvd {n d : Nat} (h : NB n) (hd : d ∣ n) : NB d := ⟨Nat.pos_of_dvd_of_pos hd h.p, Nat.le_trans (Nat.le_of_dvd h.p hd) h.b, fun m hm hi => h.i m (Nat.dvd_trans hm hd) hi⟩
theorem isp_even {m : Nat} (h : isp m = true) (h2 : m % 2 = 0) : m = 2 := by
  unfold isp at h
  by_cases z : m < 2
  · rw [if_pos z] at h; cases h
  · have e : sm12.find? (fun p => decide (m % p = 0)) = some 2 := by
      unfold sm12
      rw [List.find?_cons, decide_eq_true h2]
    rw [if_neg z, e] at h
    exact of_decide_eq_true h
theorem nb_big : NB 33550336 := by
  refine ⟨by decide, by decide, fun m hd hi => ?_⟩
  by_cases z : m % 2 = 0
  · rw [isp_even hi z]
    exact ⟨by decide, fun d h1 h2 => by omega⟩
  · have hc : Nat.Coprime m (2 ^ 12) := by
      refine Nat.Coprime.pow_right 12 ?_
      have h1 := Nat.gcd_dvd_left m 2
      have h3 : Nat.gcd m 2 = 1 ∨ Nat.gcd m 2 = 2 := by
        have := Nat.le_of_dvd (by decide) (Nat.gcd_dvd_right m 2)
        have := Nat.gcd_pos_of_pos_right m (show 0 < 2 by decide)
        omega
      rcases h3 with e | e
      · exact e
      · rw [e] at h1
        exact absurd (Nat.mod_eq_zero_of_dvd h1) z
    have : m ∣ 8191 := by
      refine hc.dvd_of_dvd_mul_left (n := 8191) ?_
      exact hd
    have := Nat.le_of_dvd (by decide) this
    exact isp_right chk7 (by decide) (by decide) (by omega) hi
theorem prime7 {n : Nat} (h : NB n) : m_primes_of n = some (pfi (pf n)) := primes_of_ok h.p (by have := h.b; omega) h.i
theorem divisor_sum_ok {n : Nat} (hB : NB n) : m_divisor_sum n (1 : Int) = some (sg n : Int) := by
  have hn := hB.p
  have h := hB.b
  unfold m_divisor_sum
  refine tt_eq (tt_bnd.mpr ((tt_lft (prime7 hB)).mpr (Tt.then (P' := fun st _ => st = (sg n : Int)) ?_ fun st _ e => tt_bnd.mpr (tt_pure.mpr (by rw [e])))))
  refine Tt.prod8 pairI (fun y => gs y.1 y.2) (pf n) (pf_len7 hn h) (fun y hy => ?_) (fun y hy z P hz hP => ?_) ?_
  · have := pf_it hn h y hy
    have := gs_le this.1 y.2
    omega
  · have hy := pf_it hn h y hy
    have hle : y.1 ≤ y.1 ^ y.2 := Nat.le_self_pow (by omega) y.1
    have e1 : m_power_of (y.1 : Int) (1 : Int) = some (y.1 : Int) := by
      have := power_of_ok (p := y.1) (k := 1) (by omega) (by rw [Nat.pow_one]; omega) (by decide)
      rw [Nat.pow_one] at this
      exact this
    refine (tt_lft e1).mpr (tt_bnd.mpr (tt_bnd.mpr (tt_grd.mpr ⟨rgb_nat (by show y.2 ≤ _; omega), Tt.then (gs_loop hy.1 hy.2.2.2 hy.2.2.1 hy.2.1 (P := fun st _ => st = ((gs y.1 y.2 : Nat) : Int)) rfl) fun st s e => ?_⟩)))
    subst e
    have := gs_le hy.1 y.2
    refine tt_grd.mpr ⟨⟨hz, sm_nat (by omega)⟩, tt_bnd.mpr (tt_pure.mpr ?_)⟩
    rw [Int.natCast_mul] at hP
    exact hP
  · rw [fold_sgl, Nat.one_mul]; rfl
theorem gs_sum (p : Nat) : ∀ k : Nat, (((List.range (k + 1)).map fun j => ((p ^ j : Nat) : Int)).sum) = ((gs p k : Nat) : Int)
  | 0 => rfl
  | k + 1 => by
    rw [List.range_succ, List.map_append, List.sum_append, gs_sum p k, gs_s]
    simp
theorem law_sum_ok {n : Nat} (hn : 0 < n) (h : n ≤ 4 * 10 ^ 7) : m__law_sum (pfi (pf n)) (1 : Int) = some (sg n : Int) := by
  unfold m__law_sum
  refine tt_eq (tt_bnd.mpr (Tt.then (P' := fun st _ => st = (sg n : Int)) ?_ fun st _ e => tt_bnd.mpr (tt_pure.mpr (by rw [e]))))
  refine Tt.prod8 pairI (fun y => gs y.1 y.2) (pf n) (pf_len7 hn h) (fun y hy => ?_) (fun y hy z P hz hP => ?_) ?_
  · have := pf_it hn h y hy
    have := gs_le this.1 y.2
    omega
  · have hy := pf_it hn h y hy
    have hle : y.1 ≤ y.1 ^ y.2 := Nat.le_self_pow (by omega) y.1
    have e1 : m__law_raised (y.1 : Int) (1 : Int) = some (y.1 : Int) := by
      have := raised_ok (p := y.1) (k := 1) (by omega) (by rw [Nat.pow_one]; omega) (by decide)
      rw [Nat.pow_one] at this
      exact this
    have er : rng 0 ((y.2 : Int) + 1) = (List.range (y.2 + 1)).map fun j => ((j : Nat) : Int) := by
      unfold rng
      have : ((y.2 : Int) + 1 - 0).toNat = y.2 + 1 := by omega
      rw [this]
      apply List.map_congr_left
      intro j _
      omega
    refine (tt_lft e1).mpr (tt_bnd.mpr (tt_grd.mpr ⟨⟨by show _ ≤ (y.2 : Int) + 1; omega, by show (y.2 : Int) + 1 < _; omega⟩, tt_grd.mpr ⟨by show (rng 0 ((y.2 : Int) + 1)).length ≤ _; rw [rng_len]; omega, ?_⟩⟩))
    show Tt () (Wk.cmp (rng 0 ((y.2 : Int) + 1)) _ >>= _) P
    refine tt_map (g := fun x : Int => ((y.1 ^ x.toNat : Nat) : Int)) (fun x hx s Q hQ => ?_) ?_
    · obtain ⟨h0, h1⟩ := mem_rng.mp hx
      obtain ⟨j, rfl⟩ : ∃ j : Nat, x = j := ⟨x.toNat, by omega⟩
      have hj : y.1 ^ j ≤ y.1 ^ y.2 := Nat.pow_le_pow_right (by omega) (by omega)
      rw [Int.toNat_natCast] at hQ
      exact (tt_lft (raised_ok (by omega) (by omega) (by omega))).mpr (tt_pure.mpr hQ)
    · have es : ((rng 0 ((y.2 : Int) + 1)).map fun x : Int => ((y.1 ^ x.toNat : Nat) : Int)).sum = ((gs y.1 y.2 : Nat) : Int) := by
        rw [er, List.map_map, ← gs_sum]
        rfl
      rw [es]
      have := gs_le hy.1 y.2
      refine tt_grd.mpr ⟨⟨hz, sm_nat (by omega)⟩, tt_bnd.mpr (tt_pure.mpr ?_)⟩
      rw [Int.natCast_mul] at hP
      exact hP
  · rw [fold_sgl, Nat.one_mul]; rfl
end Wk
set_option Elab.async false
set_option maxRecDepth 100000
set_option maxHeartbeats 4000000
set_option linter.all false
/-! A87c: shares -/
namespace Wk
open PySem L2
open PyProof.Rows hiding St
theorem law_common_ok {a b : Nat} (hb : b < 10 ^ 40) : m__law_common a b = some ((Nat.gcd a b : Nat) : Int) := by
  unfold m__law_common
  refine tt_eq (Tt.then (P' := fun st _ => st.1 = ((Nat.gcd a b : Nat) : Int)) ?_ fun st _ h => by simp only [tt_bnd, tt_pure]; exact h)
  refine Tt.wh (I := fun (st : Int × Int) _ => ∃ x y : Nat, st = ((x : Int), (y : Int)) ∧ Nat.gcd x y = Nat.gcd a b) (nu := fun st => st.2.toNat) ?_ many _ _ ⟨a, b, rfl, rfl⟩ (lt_many (by simpa using hb))
  rintro st s k P ⟨x, y, rfl, e⟩ hk
  refine hk _ _ (fun ht => ?_) (fun ht => ?_)
  · have hy : 0 < y := by simpa using ht
    refine tt_bnd.mpr (tt_grd.mpr ⟨by show (0 : Int) < (y : Int); omega, tt_bnd.mpr (tt_pure.mpr ⟨⟨y, x % y, by rw [nmod], ?_⟩, ?_⟩)⟩)
    · rw [← e, Nat.gcd_comm x y, Nat.gcd_rec y x, Nat.gcd_comm]
    · have := Nat.mod_lt x hy
      show ((x : Int) % (y : Int)).toNat < (y : Int).toNat
      rw [nmod]; omega
  · have hy : y = 0 := by simp at ht; omega
    subst hy
    rw [Nat.gcd_zero_right] at e
    show (x : Int) = _
    rw [e]
theorem common_divisor_ok {a b : Nat} (hb : b < 10 ^ 40) : m_common_divisor a b = some ((Nat.gcd a b : Nat) : Int) := by
  have e : m_common_divisor a b = m__law_common a b := by unfold m_common_divisor m__law_common; rfl
  rw [e, law_common_ok hb]

def red (a b : Nat) : Int × Int := (((a / Nat.gcd a b : Nat) : Int), ((b / Nat.gcd a b : Nat) : Int))
theorem red_eq {a b c d : Nat} (ha : 0 < a) (hb : 0 < b) (hc : 0 < c) (hd : 0 < d) (h : a * d = c * b) : red a b = red c d := by
  have hg : 0 < Nat.gcd a b := Nat.gcd_pos_of_pos_left b ha
  have hk : 0 < Nat.gcd c d := Nat.gcd_pos_of_pos_left d hc
  have c1 := Nat.coprime_div_gcd_div_gcd hg
  have c2 := Nat.coprime_div_gcd_div_gcd hk
  have ea : a / Nat.gcd a b * Nat.gcd a b = a := Nat.div_mul_cancel (Nat.gcd_dvd_left a b)
  have eb : b / Nat.gcd a b * Nat.gcd a b = b := Nat.div_mul_cancel (Nat.gcd_dvd_right a b)
  have ec : c / Nat.gcd c d * Nat.gcd c d = c := Nat.div_mul_cancel (Nat.gcd_dvd_left c d)
  have ed : d / Nat.gcd c d * Nat.gcd c d = d := Nat.div_mul_cancel (Nat.gcd_dvd_right c d)
  unfold red
  generalize a / Nat.gcd a b = x at *
  generalize b / Nat.gcd a b = y at *
  generalize c / Nat.gcd c d = u at *
  generalize d / Nat.gcd c d = v at *
  generalize Nat.gcd a b = g at *
  generalize Nat.gcd c d = k at *
  have h2 : x * v = u * y := by
    have : (x * v) * (g * k) = (u * y) * (g * k) := by
      calc (x * v) * (g * k) = (x * g) * (v * k) := by simp only [Nat.mul_assoc, Nat.mul_left_comm, Nat.mul_comm]
        _ = (u * k) * (y * g) := by rw [ea, ed, ec, eb, h]
        _ = (u * y) * (g * k) := by simp only [Nat.mul_assoc, Nat.mul_left_comm, Nat.mul_comm]
    exact Nat.eq_of_mul_eq_mul_right (Nat.mul_pos hg hk) this
  have d1 : x ∣ u := c1.dvd_of_dvd_mul_right ⟨v, h2.symm⟩
  have d2 : u ∣ x := c2.dvd_of_dvd_mul_right ⟨y, h2⟩
  have e1 : x = u := Nat.dvd_antisymm d1 d2
  have hx : 0 < x := by
    rcases Nat.eq_zero_or_pos x with z | z
    · rw [z, Nat.zero_mul] at ea; omega
    · exact z
  rw [← e1] at h2
  have e2 : v = y := Nat.eq_of_mul_eq_mul_left hx h2
  rw [e1, e2]
theorem fraction_of_ok {a b : Nat} (ha : 0 < a) (hb : 0 < b) (hb2 : b < 10 ^ 40) : m_fraction_of a b = some (red a b) := by
  unfold m_fraction_of
  have hg : 0 < Nat.gcd a b := Nat.gcd_pos_of_pos_left b ha
  have hl := Nat.le_of_dvd hb (Nat.gcd_dvd_right a b)
  refine tt_eq ((tt_lft (common_divisor_ok hb2)).mpr (tt_bnd.mpr (tt_grd.mpr ⟨dv_nat hg (by omega), tt_grd.mpr ⟨dv_nat hg (by omega), tt_bnd.mpr (tt_pure.mpr ?_)⟩⟩)))
  rw [ndiv, ndiv]; rfl
theorem law_made_ok {a b : Nat} (ha : 0 < a) (hb : 0 < b) (hb2 : b < 10 ^ 40) : m__law_made a b = some (red a b) := by
  unfold m__law_made
  have hg : 0 < Nat.gcd a b := Nat.gcd_pos_of_pos_left b ha
  have hl := Nat.le_of_dvd hb (Nat.gcd_dvd_right a b)
  refine tt_eq (Tt.then (P' := fun c _ => c = ((Nat.gcd a b : Nat) : Int)) ?_ fun c _ e => ?_)
  · refine Tt.pos (by rw [decide_eq_false (show ¬ (a : Int) = 0 by omega)]; rfl) ?_
    rw [if_neg (show ¬ (a : Int) < 0 by omega)]
    exact (tt_lft (law_common_ok hb2)).mpr (tt_pure.mpr rfl)
  · subst e
    refine tt_bnd.mpr (tt_grd.mpr ⟨dv_nat hg (by omega), tt_grd.mpr ⟨dv_nat hg (by omega), tt_bnd.mpr (tt_pure.mpr ?_)⟩⟩)
    rw [ndiv, ndiv]; rfl
theorem sg_pos {n : Nat} (h : NB n) : 0 < sg n := Nat.lt_of_lt_of_le h.p (sg_ge h.p (by have := h.b; omega))
theorem share_of_ok {n : Nat} (h : NB n) : m_share_of n = some (red (sg n) n) := by
  unfold m_share_of
  exact tt_eq ((tt_lft (divisor_sum_ok h)).mpr ((tt_lft (fraction_of_ok (sg_pos h) h.p (by have := h.b; omega))).mpr (tt_bnd.mpr (tt_pure.mpr rfl))))
theorem often_as_much_ok {n : Nat} (h : NB n) : m_often_as_much n = some (if decide ((red (sg n) n).2 = (1 : Int)) = true then some (red (sg n) n).1 else none) := by
  unfold m_often_as_much
  exact tt_eq ((tt_lft (share_of_ok h)).mpr (tt_bnd.mpr (tt_bnd.mpr (tt_pure.mpr rfl))))
theorem is_perfect_ok {n : Nat} (h : NB n) : m_is_perfect n = some (decide ((sg n : Int) = 2 * (n : Int))) := by
  unfold m_is_perfect
  exact tt_eq ((tt_lft (divisor_sum_ok h)).mpr (tt_grd.mpr ⟨⟨sm_small (by decide), sm_nat (by have := h.b; omega)⟩, tt_bnd.mpr (tt_pure.mpr rfl)⟩))
theorem seen_ok {n : Nat} (h : NB n) : m_is_seen_alone n = some (decide (((Nat.gcd (sg n) n : Nat) : Int) = 1)) := by
  unfold m_is_seen_alone
  exact tt_eq ((tt_lft (divisor_sum_ok h)).mpr ((tt_lft (common_divisor_ok (by have := h.b; omega))).mpr (tt_bnd.mpr (tt_pure.mpr rfl))))
theorem sgl_app (a b : List (Nat × Nat)) : sgl (a ++ b) = sgl a * sgl b := by
  induction a with
  | nil => simp [sgl]
  | cons y a ih =>
    show gs y.1 y.2 * sgl (a ++ b) = gs y.1 y.2 * sgl a * sgl b
    rw [ih, Nat.mul_assoc]
theorem prd_app (a b : List (Nat × Nat)) : prd (a ++ b) = prd a * prd b := by
  induction a with
  | nil => simp [prd]
  | cons y a ih =>
    show y.1 ^ y.2 * prd (a ++ b) = y.1 ^ y.2 * prd a * prd b
    rw [ih, Nat.mul_assoc]
theorem sgl_pos {l : List (Nat × Nat)} (h : Ok2 l) : 1 ≤ sgl l := Nat.le_trans (prd_pos h) (sgl_ge h)
def shR (y : Nat × Nat) : Int × Int := red (gs y.1 y.2) (y.1 ^ y.2)
theorem power_sum_ok {p k : Nat} (hp : 2 ≤ p) (hk : k ≤ 60) (h : p ^ k ≤ 4 * 10 ^ 7) (h1 : 1 ≤ k) : m_power_sum p k = some ((gs p k : Nat) : Int) := by
  unfold m_power_sum
  exact tt_eq (tt_bnd.mpr (tt_grd.mpr ⟨rgb_nat (by omega), Tt.then (gs_loop hp hk h h1 (P := fun st _ => st = ((gs p k : Nat) : Int)) rfl) fun st _ e => tt_bnd.mpr (tt_pure.mpr e)⟩))
theorem prime_shares_ok {n : Nat} (h : NB n) : m_prime_shares n = some ((pf n).map shR) := by
  unfold m_prime_shares
  refine tt_eq ((tt_lft (prime7 h)).mpr (tt_grd.mpr ⟨by rw [pfi_len]; have := pf_len7 h.p h.b; omega, ?_⟩))
  refine tt_map (xs := pfi (pf n)) (g := fun x : Int × Int => shR (x.1.toNat, x.2.toNat)) (fun x hx s Q hQ => ?_) (tt_bnd.mpr (tt_pure.mpr ?_))
  · obtain ⟨y, hy, rfl⟩ := List.mem_map.mp hx
    have hy := pf_it h.p h.b y hy
    have hQ : Q (some (shR (y.1, y.2))) s := by simpa using hQ
    exact (tt_lft (power_sum_ok hy.1 hy.2.2.2 hy.2.2.1 hy.2.1)).mpr ((tt_lft (power_of_ok (by omega) (by omega) (by omega))).mpr ((tt_lft (fraction_of_ok (Nat.lt_of_lt_of_le (Nat.succ_pos _) (gs_ge hy.2.1)) (Nat.pow_pos (by omega)) (by omega))).mpr (tt_pure.mpr hQ)))
  · unfold pfi
    rw [List.map_map]
    apply List.map_congr_left
    intro y _
    simp
/-- the product of the shares -/
theorem parts_loop {n : Nat} (h : NB n) {P : Int × Int → PotT → Prop} {s : PotT} (hP : ∀ x y : Nat, 0 < x → 0 < y → y < 10 ^ 40 → x * n = sg n * y → P ((x : Int), (y : Int)) s) :
    Tt s (lpS ((pf n).map shR) (fun (x314 : (Int × Int)) (st312 : Int × Int) =>
      Mir.lft (grd (Sm st312.1 ∧ Sm x314.1)) >>= fun _ => bnd (st312.1 * x314.1) fun above356 =>
      Mir.lft (grd (Sm st312.2 ∧ Sm x314.2)) >>= fun _ => bnd (st312.2 * x314.2) fun below366 =>
      pure (above356, below366)) ((1 : Int), (1 : Int)) : PM PotT (Int × Int)) P := by
  have ho := pf_ok2 h.p (by have := h.b; omega)
  have hpd := pf_prd h.p (by have := h.b; omega)
  have hsg := sg_le h.p (by have := h.b; omega)
  have hnn : n * n ≤ 4 * 10 ^ 7 * (4 * 10 ^ 7) := Nat.mul_le_mul h.b h.b
  refine (Tt.lp (I := fun xs (st : Int × Int) s1 => s1 = s ∧ ∃ (x y : Nat) (dn rest : List (Nat × Nat)), pf n = dn ++ rest ∧ xs = rest.map shR ∧ st = ((x : Int), (y : Int)) ∧ 0 < x ∧ 0 < y ∧ x ≤ sgl dn ∧ y ≤ prd dn ∧ x * prd dn = sgl dn * y) ?_ _ _ _ ⟨rfl, 1, 1, [], pf n, rfl, rfl, rfl, by decide, by decide, Nat.le_refl _, Nat.le_refl _, rfl⟩).mono ?_
  · rintro x xs st s1 ⟨rfl, a, b, dn, rest, e1, e2, rfl, ha, hb, hax, hby, hx⟩
    cases rest with
    | nil => cases e2
    | cons y rest =>
      rw [List.map_cons, List.cons.injEq] at e2
      obtain ⟨rfl, rfl⟩ := e2
      have od : Ok2 dn := fun z hz => ho z (by rw [e1]; exact List.mem_append_left _ hz)
      have orr : Ok2 rest := fun z hz => ho z (by rw [e1]; exact List.mem_append_right _ (List.mem_cons_of_mem _ hz))
      have hy := ho y (by rw [e1]; simp)
      have e3 : sg n = sgl dn * (gs y.1 y.2 * sgl rest) := by unfold sg; rw [e1, sgl_app]; rfl
      have e4 : n = prd dn * (y.1 ^ y.2 * prd rest) := by rw [← hpd, e1, prd_app]; rfl
      have hgp : 0 < gs y.1 y.2 := Nat.lt_of_lt_of_le (Nat.succ_pos _) (gs_ge hy.2)
      have hpp : 0 < y.1 ^ y.2 := Nat.pow_pos (by omega)
      have q1 : sgl dn ≤ sg n := by rw [e3]; exact Nat.le_mul_of_pos_right _ (Nat.mul_pos hgp (sgl_pos orr))
      have q2 : gs y.1 y.2 ≤ sg n := by
        rw [e3, Nat.mul_left_comm]; exact Nat.le_mul_of_pos_right _ (Nat.mul_pos (sgl_pos od) (sgl_pos orr))
      have q3 : prd dn ≤ n := by
        conv => rhs; rw [e4]
        exact Nat.le_mul_of_pos_right _ (Nat.mul_pos hpp (prd_pos orr))
      have q4 : y.1 ^ y.2 ≤ n := by
        conv => rhs; rw [e4, Nat.mul_left_comm]
        exact Nat.le_mul_of_pos_right _ (Nat.mul_pos (prd_pos od) (prd_pos orr))
      have hnb := h.b
      have hg0 : 0 < Nat.gcd (gs y.1 y.2) (y.1 ^ y.2) := Nat.gcd_pos_of_pos_left _ hgp
      have i1 : gs y.1 y.2 / Nat.gcd (gs y.1 y.2) (y.1 ^ y.2) * Nat.gcd (gs y.1 y.2) (y.1 ^ y.2) = gs y.1 y.2 := Nat.div_mul_cancel (Nat.gcd_dvd_left _ _)
      have i2 : y.1 ^ y.2 / Nat.gcd (gs y.1 y.2) (y.1 ^ y.2) * Nat.gcd (gs y.1 y.2) (y.1 ^ y.2) = y.1 ^ y.2 := Nat.div_mul_cancel (Nat.gcd_dvd_right _ _)
      have j1 := Nat.div_le_self (gs y.1 y.2) (Nat.gcd (gs y.1 y.2) (y.1 ^ y.2))
      have j2 := Nat.div_le_self (y.1 ^ y.2) (Nat.gcd (gs y.1 y.2) (y.1 ^ y.2))
      unfold shR red
      generalize gs y.1 y.2 / Nat.gcd (gs y.1 y.2) (y.1 ^ y.2) = u at *
      generalize y.1 ^ y.2 / Nat.gcd (gs y.1 y.2) (y.1 ^ y.2) = v at *
      refine tt_grd.mpr ⟨⟨sm_nat (by omega), sm_nat (by show u ≤ _; omega)⟩, tt_bnd.mpr (tt_grd.mpr ⟨⟨sm_nat (by omega), sm_nat (by show v ≤ _; omega)⟩, tt_bnd.mpr (tt_pure.mpr ⟨rfl, a * u, b * v, dn ++ [y], rest, by rw [e1]; simp, rfl, by push_cast; rfl, ?_, ?_, ?_, ?_, ?_⟩)⟩)⟩
      · refine Nat.mul_pos ha (Nat.pos_of_ne_zero ?_); rintro rfl; omega
      · refine Nat.mul_pos hb (Nat.pos_of_ne_zero ?_); rintro rfl; omega
      · rw [sgl_app]; show a * u ≤ sgl dn * (gs y.1 y.2 * 1); rw [Nat.mul_one]; exact Nat.mul_le_mul hax j1
      · rw [prd_app]; show b * v ≤ prd dn * (y.1 ^ y.2 * 1); rw [Nat.mul_one]; exact Nat.mul_le_mul hby j2
      · rw [sgl_app, prd_app]
        show a * u * (prd dn * (y.1 ^ y.2 * 1)) = sgl dn * (gs y.1 y.2 * 1) * (b * v)
        rw [Nat.mul_one, Nat.mul_one]
        generalize Nat.gcd (gs y.1 y.2) (y.1 ^ y.2) = g at *
        rw [← i1, ← i2]
        calc a * u * (prd dn * (v * g)) = (a * prd dn) * (u * (v * g)) := by simp only [Nat.mul_assoc, Nat.mul_left_comm, Nat.mul_comm]
          _ = (sgl dn * b) * (u * (v * g)) := by rw [hx]
          _ = sgl dn * (u * g) * (b * v) := by simp only [Nat.mul_assoc, Nat.mul_left_comm, Nat.mul_comm]
  · rintro st s1 ⟨rfl, a, b, dn, rest, e1, e2, rfl, ha, hb, hax, hby, hx⟩
    have : rest = [] := by cases rest with
      | nil => rfl
      | cons _ _ => cases e2
    subst this
    rw [List.append_nil] at e1
    rw [← e1, hpd] at hx hby
    exact hP a b ha hb (by have := h.b; omega) hx
/-! reaches -/
def pA (l : List (Nat × Nat)) : Nat := l.foldr (fun y a => y.1 * a) 1
def pB (l : List (Nat × Nat)) : Nat := l.foldr (fun y a => (y.1 - 1) * a) 1
theorem gs_mul {p : Nat} (hp : 2 ≤ p) : ∀ k, gs p k * (p - 1) + 1 = p ^ (k + 1)
  | 0 => by simp [gs]; omega
  | k + 1 => by
    have h := gs_mul hp k
    show (gs p k * p + 1) * (p - 1) + 1 = p ^ (k + 1) * p
    rw [← h, Nat.add_mul, Nat.add_mul, Nat.one_mul, Nat.one_mul, Nat.mul_right_comm]
    omega
theorem reach_le : ∀ {l}, Ok2 l → sgl l * pB l ≤ prd l * pA l ∧ (l ≠ [] → sgl l * pB l < prd l * pA l) ∧ 0 < pA l ∧ 0 < pB l
  | [], _ => ⟨Nat.le_refl _, fun h => absurd rfl h, by decide, by decide⟩
  | y :: l, h => by
    obtain ⟨h1, _, h3, h4⟩ := reach_le (l := l) fun z hz => h z (List.mem_cons_of_mem _ hz)
    have hy := h y (List.mem_cons_self ..)
    have hg := gs_mul hy.1 y.2
    have hpl := prd_pos (l := l) fun z hz => h z (List.mem_cons_of_mem _ hz)
    have e1 : sgl (y :: l) * pB (y :: l) = (gs y.1 y.2 * (y.1 - 1)) * (sgl l * pB l) := by
      show gs y.1 y.2 * sgl l * ((y.1 - 1) * pB l) = _
      simp only [Nat.mul_assoc, Nat.mul_left_comm, Nat.mul_comm]
    have e2 : prd (y :: l) * pA (y :: l) = (y.1 ^ (y.2 + 1)) * (prd l * pA l) := by
      show y.1 ^ y.2 * prd l * (y.1 * pA l) = _
      rw [Nat.pow_succ]
      simp only [Nat.mul_assoc, Nat.mul_left_comm, Nat.mul_comm]
    have key : sgl (y :: l) * pB (y :: l) < prd (y :: l) * pA (y :: l) := by
      rw [e1, e2, ← hg, Nat.add_mul, Nat.one_mul]
      have : gs y.1 y.2 * (y.1 - 1) * (sgl l * pB l) ≤ gs y.1 y.2 * (y.1 - 1) * (prd l * pA l) := Nat.mul_le_mul_left _ h1
      have := Nat.mul_pos hpl h3
      omega
    refine ⟨Nat.le_of_lt key, fun _ => key, Nat.mul_pos (by omega) h3, Nat.mul_pos (by omega) h4⟩
theorem pA_le : ∀ {l}, Ok2 l → pA l ≤ prd l ∧ pB l ≤ pA l
  | [], _ => ⟨Nat.le_refl _, Nat.le_refl _⟩
  | y :: l, h => by
    obtain ⟨h1, h2⟩ := pA_le (l := l) fun z hz => h z (List.mem_cons_of_mem _ hz)
    have hy := h y (List.mem_cons_self ..)
    have : y.1 ≤ y.1 ^ y.2 := Nat.le_self_pow (by omega) _
    exact ⟨Nat.mul_le_mul this h1, Nat.mul_le_mul (by omega) h2⟩
theorem pA_app (a b : List (Nat × Nat)) : pA (a ++ b) = pA a * pA b := by
  induction a with
  | nil => simp [pA]
  | cons y a ih =>
    show y.1 * pA (a ++ b) = y.1 * pA a * pA b
    rw [ih, Nat.mul_assoc]
theorem pB_app (a b : List (Nat × Nat)) : pB (a ++ b) = pB a * pB b := by
  induction a with
  | nil => simp [pB]
  | cons y a ih =>
    show (y.1 - 1) * pB (a ++ b) = (y.1 - 1) * pB a * pB b
    rw [ih, Nat.mul_assoc]
theorem reach_loop {μ : Type → Type} {τ : Type} [Mir μ τ] {n : Nat} (h : NB n) {P : Int × Int → τ → Prop} {s : τ} (hP : P ((pA (pf n) : Int), (pB (pf n) : Int)) s) :
    Tt s (lpS (pfi (pf n)) (fun (x28 : (Int × Int)) (st26 : Int × Int) =>
      Mir.lft (grd (Sm st26.1 ∧ Sm x28.1)) >>= fun _ => bnd (st26.1 * x28.1) fun above70 =>
      Mir.lft (grd (Sm st26.2 ∧ Sm (x28.1 - (1 : Int)))) >>= fun _ => bnd (st26.2 * (x28.1 - (1 : Int))) fun below80 =>
      pure (above70, below80)) ((1 : Int), (1 : Int)) : μ (Int × Int)) P := by
  have ho := pf_ok2 h.p (by have := h.b; omega)
  have hpd := pf_prd h.p (by have := h.b; omega)
  have hnb := h.b
  refine (Tt.lp (I := fun xs (st : Int × Int) s1 => s1 = s ∧ ∃ (dn rest : List (Nat × Nat)), pf n = dn ++ rest ∧ xs = pfi rest ∧ st = ((pA dn : Int), (pB dn : Int))) ?_ _ _ _ ⟨rfl, [], pf n, rfl, rfl, rfl⟩).mono ?_
  · rintro x xs st s1 ⟨rfl, dn, rest, e1, e2, rfl⟩
    cases rest with
    | nil => cases e2
    | cons y rest =>
      have e2 : x :: xs = ((y.1 : Int), (y.2 : Int)) :: pfi rest := e2
      obtain ⟨rfl, rfl⟩ := List.cons.inj e2
      have od : Ok2 dn := fun z hz => ho z (by rw [e1]; exact List.mem_append_left _ hz)
      have orr : Ok2 rest := fun z hz => ho z (by rw [e1]; exact List.mem_append_right _ (List.mem_cons_of_mem _ hz))
      have hy := ho y (by rw [e1]; simp)
      have e4 : n = prd dn * (y.1 ^ y.2 * prd rest) := by rw [← hpd, e1, prd_app]; rfl
      have hpp : 0 < y.1 ^ y.2 := Nat.pow_pos (by omega)
      have q3 : prd dn ≤ n := by
        conv => rhs; rw [e4]
        exact Nat.le_mul_of_pos_right _ (Nat.mul_pos hpp (prd_pos orr))
      have q4 : y.1 ^ y.2 ≤ n := by
        conv => rhs; rw [e4, Nat.mul_left_comm]
        exact Nat.le_mul_of_pos_right _ (Nat.mul_pos (prd_pos od) (prd_pos orr))
      have q5 : y.1 ≤ y.1 ^ y.2 := Nat.le_self_pow (by omega) _
      have q6 := pA_le od
      have e5 : (y.1 : Int) - 1 = ((y.1 - 1 : Nat) : Int) := by omega
      rw [e5]
      refine tt_grd.mpr ⟨⟨sm_nat (by omega), sm_nat (by omega)⟩, tt_bnd.mpr (tt_grd.mpr ⟨⟨sm_nat (by omega), sm_nat (by omega)⟩, tt_bnd.mpr (tt_pure.mpr ⟨rfl, dn ++ [y], rest, by rw [e1]; simp, rfl, ?_⟩)⟩)⟩
      rw [pA_app, pB_app]
      show _ = (((pA dn * (y.1 * 1) : Nat) : Int), ((pB dn * ((y.1 - 1) * 1) : Nat) : Int))
      rw [Nat.mul_one, Nat.mul_one, Int.natCast_mul, Int.natCast_mul]
  · rintro st s1 ⟨rfl, dn, rest, e1, e2, rfl⟩
    have : rest = [] := by cases rest with
      | nil => rfl
      | cons _ _ => cases e2
    subst this
    rw [List.append_nil] at e1
    rw [← e1]; exact hP
def rch (n : Nat) : Int × Int := red (pA (pf n)) (pB (pf n))
theorem rch_pos {n : Nat} (h : NB n) : 0 < pA (pf n) ∧ 0 < pB (pf n) ∧ pB (pf n) ≤ 4 * 10 ^ 7 ∧ pA (pf n) ≤ 4 * 10 ^ 7 := by
  have ho := pf_ok2 h.p (by have := h.b; omega)
  have h1 := reach_le ho
  have h2 := pA_le ho
  have hpd := pf_prd h.p (by have := h.b; omega)
  have := h.b
  exact ⟨h1.2.2.1, h1.2.2.2, by omega, by omega⟩
theorem reach_of_ok {n : Nat} (h : NB n) : m_reach_of n = some (rch n) := by
  unfold m_reach_of
  have hr := rch_pos h
  have hg : 0 < Nat.gcd (pA (pf n)) (pB (pf n)) := Nat.gcd_pos_of_pos_left _ hr.1
  have hl := Nat.le_of_dvd hr.2.1 (Nat.gcd_dvd_right (pA (pf n)) (pB (pf n)))
  refine tt_eq (tt_bnd.mpr (tt_bnd.mpr ((tt_lft (prime7 h)).mpr (Tt.then (reach_loop (μ := Option) h (P := fun st _ => st = ((pA (pf n) : Int), (pB (pf n) : Int))) rfl) fun st _ e => ?_))))
  subst e
  refine (tt_lft (common_divisor_ok (by omega))).mpr (tt_bnd.mpr (tt_grd.mpr ⟨dv_nat hg (by omega), tt_grd.mpr ⟨dv_nat hg (by omega), tt_bnd.mpr (tt_pure.mpr ?_)⟩⟩))
  unfold rch red
  show (((pA (pf n) : Int) / ((Nat.gcd (pA (pf n)) (pB (pf n)) : Nat) : Int)), ((pB (pf n) : Int) / ((Nat.gcd (pA (pf n)) (pB (pf n)) : Nat) : Int))) = _
  rw [ndiv, ndiv]
end Wk
set_option Elab.async false
set_option maxRecDepth 100000
set_option maxHeartbeats 4000000
set_option linter.all false
/-! A87d: divisors, put together of a parting -/
namespace Wk
open PySem L2
open PyProof.Rows hiding St
structure Gd (l : List (Nat × Nat)) : Prop where
  s : l.Pairwise (fun a b => a.1 < b.1)
  p : ∀ y ∈ l, Pr y.1 ∧ 1 ≤ y.2
theorem Gd.ok2 {l : List (Nat × Nat)} (h : Gd l) : Ok2 l := fun y hy => ⟨(h.p y hy).1.1, (h.p y hy).2⟩
theorem pr_prd {q : Nat} (hq : Pr q) : ∀ {l : List (Nat × Nat)}, (∀ y ∈ l, Pr y.1 ∧ 1 ≤ y.2) → q ∣ prd l → ∃ y ∈ l, q = y.1
  | [], _, h => by
    have := Nat.le_of_dvd (by decide) (show q ∣ 1 from h)
    have := hq.1
    omega
  | y :: l, hl, h => by
    rcases hq.mul (show q ∣ y.1 ^ y.2 * prd l from h) with z | z
    · exact ⟨y, List.mem_cons_self .., hq.eq (hl y (List.mem_cons_self ..)).1 (hq.pow z)⟩
    · obtain ⟨w, hw, e⟩ := pr_prd hq (fun y hy => hl y (List.mem_cons_of_mem _ hy)) z
      exact ⟨w, List.mem_cons_of_mem _ hw, e⟩
theorem PFmk : ∀ {l : List (Nat × Nat)}, Gd l → PF (prd l) l
  | [], _ => PF.one
  | y :: l, h => by
    obtain ⟨p, k⟩ := y
    have h1 := List.pairwise_cons.mp h.s
    have h2 : Gd l := ⟨h1.2, fun z hz => h.p z (List.mem_cons_of_mem _ hz)⟩
    have hy := h.p (p, k) (List.mem_cons_self ..)
    have hp : Pr p := hy.1
    have hk : 1 ≤ k := hy.2
    have hpos := prd_pos h.ok2
    have e : prd ((p, k) :: l) = p ^ k * prd l := rfl
    have hnp : prd l % p ≠ 0 := fun z => by
      obtain ⟨w, hw, e⟩ := pr_prd hp h2.p (Nat.dvd_of_mod_eq_zero z)
      have := h1.1 w hw
      have : p < w.1 := this
      omega
    have hv : vp p (prd ((p, k) :: l)) = k := by rw [e]; exact vp_eq hp.1 hnp
    have hdiv : prd ((p, k) :: l) / p ^ k = prd l := by rw [e]; exact Nat.mul_div_cancel_left _ (Nat.pow_pos hp.pos)
    have := PF.cons (p := p) (n := prd ((p, k) :: l)) (l := l) (fun q hq hlt hz => by
      obtain ⟨w, hw, ew⟩ := pr_prd hq h.p (Nat.dvd_of_mod_eq_zero hz)
      rcases List.mem_cons.mp hw with z | z
      · rw [z] at ew; have : q = p := ew; omega
      · have : p < w.1 := h1.1 w z
        omega) hp.1 (by omega) (by
      rw [e]
      obtain ⟨c, rfl⟩ : ∃ c, k = c + 1 := ⟨k - 1, by omega⟩
      rw [Nat.pow_succ, Nat.mul_assoc, Nat.mul_left_comm]
      exact Nat.mul_mod_right _ _) (by rw [hv, hdiv]; exact PFmk h2)
    rw [hv] at this
    exact this
theorem pf_of {l : List (Nat × Nat)} (h : Gd l) (h64 : prd l < 2 ^ 64) : pf (prd l) = l := PF.uniq (pf_ok (prd_pos h.ok2) h64) (PFmk h)
theorem pf_gd {n : Nat} (hn : 0 < n) (h : n < 2 ^ 64) : Gd (pf n) := ⟨(pf_ok hn h).s, fun ⟨q, k⟩ hy => ⟨((pf_ok hn h).m q k |>.mp hy).1, ((pf_ok hn h).low hn hy).2.2.1⟩⟩
def nd (l : List (Nat × Nat)) : Nat := l.foldr (fun y a => (y.2 + 1) * a) 1
theorem nd_app (a b : List (Nat × Nat)) : nd (a ++ b) = nd a * nd b := by
  induction a with
  | nil => simp [nd]
  | cons y a ih =>
    show (y.2 + 1) * nd (a ++ b) = (y.2 + 1) * nd a * nd b
    rw [ih, Nat.mul_assoc]
theorem nd_pos : ∀ l, 0 < nd l
  | [] => by decide
  | y :: l => Nat.mul_pos (Nat.succ_pos _) (nd_pos l)
theorem nd_le : ∀ {l}, Ok2 l → nd l ≤ prd l
  | [], _ => Nat.le_refl _
  | y :: l, h => by
    have h1 := nd_le (l := l) fun z hz => h z (List.mem_cons_of_mem _ hz)
    have hy := h y (List.mem_cons_self ..)
    have : y.2 + 1 ≤ y.1 ^ y.2 := Nat.le_trans (Nat.lt_two_pow_self (n := y.2)) (Nat.pow_le_pow_left hy.1 _)
    exact Nat.mul_le_mul this h1
def dts (F : List (List (Nat × Nat))) (y : Nat × Nat) : List (List (Nat × Nat)) := F ++ (List.range y.2).flatMap fun j => F.map fun s => s ++ [(y.1, j + 1)]
structure Fi (dn : List (Nat × Nat)) (F : List (List (Nat × Nat))) : Prop where
  g : ∀ s ∈ F, Gd s
  w : ∀ s ∈ F, ∀ z ∈ s, ∃ w ∈ dn, z.1 = w.1
  d : ∀ s ∈ F, prd s ∣ prd dn
  l : F.length = nd dn
  n : F.Nodup
  m : dn ∈ F
theorem Fi.start : Fi [] [[]] := ⟨fun s hs => by rw [List.mem_singleton.mp hs]; exact ⟨List.Pairwise.nil, fun _ h => (nomatch h)⟩, fun s hs z hz => (by rw [List.mem_singleton.mp hs] at hz; cases hz), fun s hs => (by rw [List.mem_singleton.mp hs]; exact Nat.dvd_refl _), rfl, by simp, by simp⟩
theorem mem_dts {F : List (List (Nat × Nat))} {y : Nat × Nat} {s : List (Nat × Nat)} : s ∈ dts F y ↔ s ∈ F ∨ ∃ j, j < y.2 ∧ ∃ t ∈ F, s = t ++ [(y.1, j + 1)] := by
  unfold dts
  rw [List.mem_append, List.mem_flatMap]
  constructor
  · rintro (h | ⟨j, hj, h⟩)
    · exact .inl h
    · obtain ⟨t, ht, rfl⟩ := List.mem_map.mp h
      exact .inr ⟨j, List.mem_range.mp hj, t, ht, rfl⟩
  · rintro (h | ⟨j, hj, t, ht, rfl⟩)
    · exact .inl h
    · exact .inr ⟨j, List.mem_range.mpr hj, List.mem_map.mpr ⟨t, ht, rfl⟩⟩
theorem last_inj {a b : List (Nat × Nat)} {x y : Nat × Nat} (h : a ++ [x] = b ++ [y]) : a = b ∧ x = y := by
  have h1 := List.append_inj' h rfl
  exact ⟨h1.1, by simpa using h1.2⟩
theorem flat_len {α β : Type} {g : Nat → List β} {c : Nat} (h : ∀ j, (g j).length = c) : ∀ n, ((List.range n).flatMap g).length = n * c
  | 0 => by simp
  | n + 1 => by rw [List.range_succ, List.flatMap_append, List.length_append, flat_len (α := α) h n, Nat.add_mul]; simp [h]
theorem Fi.next {dn : List (Nat × Nat)} {F : List (List (Nat × Nat))} {y : Nat × Nat} (h : Fi dn F) (hg : Gd (dn ++ [y])) : Fi (dn ++ [y]) (dts F y) := by
  have hs := List.pairwise_append.mp hg.s
  have hy := hg.p y (by simp)
  have hlt : ∀ s ∈ F, ∀ z ∈ s, z.1 < y.1 := fun s hs' z hz => by
    obtain ⟨w, hw, e⟩ := h.w s hs' z hz
    rw [e]; exact hs.2.2 w hw y (by simp)
  have ep : prd (dn ++ [y]) = prd dn * y.1 ^ y.2 := by rw [prd_app]; show _ * (y.1 ^ y.2 * 1) = _; rw [Nat.mul_one]
  refine ⟨fun s hs' => ?_, fun s hs' z hz => ?_, fun s hs' => ?_, ?_, ?_, ?_⟩
  · rcases mem_dts.mp hs' with z | ⟨j, hj, t, ht, rfl⟩
    · exact h.g s z
    · refine ⟨List.pairwise_append.mpr ⟨(h.g t ht).s, List.pairwise_singleton .., fun a ha b hb => ?_⟩, fun a ha => ?_⟩
      · rw [List.mem_singleton.mp hb]; exact hlt t ht a ha
      · rcases List.mem_append.mp ha with q | q
        · exact (h.g t ht).p a q
        · rw [List.mem_singleton.mp q]; exact ⟨hy.1, by show 1 ≤ j + 1; omega⟩
  · rcases mem_dts.mp hs' with q | ⟨j, hj, t, ht, rfl⟩
    · obtain ⟨w, hw, e⟩ := h.w s q z hz
      exact ⟨w, List.mem_append_left _ hw, e⟩
    · rcases List.mem_append.mp hz with q | q
      · obtain ⟨w, hw, e⟩ := h.w t ht z q
        exact ⟨w, List.mem_append_left _ hw, e⟩
      · exact ⟨y, by simp, by rw [List.mem_singleton.mp q]⟩
  · rw [ep]
    rcases mem_dts.mp hs' with q | ⟨j, hj, t, ht, rfl⟩
    · exact Nat.dvd_trans (h.d s q) (Nat.dvd_mul_right ..)
    · rw [prd_app]
      show prd t * (y.1 ^ (j + 1) * 1) ∣ _
      rw [Nat.mul_one]
      exact Nat.mul_dvd_mul (h.d t ht) (Nat.pow_dvd_pow _ (by omega))
  · unfold dts
    rw [List.length_append, flat_len (α := Nat) (c := F.length) (fun j => List.length_map ..), h.l, nd_app]
    show nd dn + y.2 * nd dn = nd dn * ((y.2 + 1) * 1)
    rw [Nat.mul_one, Nat.mul_add, Nat.mul_one, Nat.mul_comm, Nat.add_comm]
  · have nk : ∀ t ∈ F, ∀ j : Nat, ∀ u : List (Nat × Nat), t ≠ u ++ [(y.1, j + 1)] := fun t ht j u e => by
      have := hlt t ht (y.1, j + 1) (by rw [e]; simp)
      have : y.1 < y.1 := this
      omega
    unfold dts
    refine List.nodup_append.mpr ⟨h.n, ?_, fun a ha b hb e => ?_⟩
    · refine List.pairwise_flatMap.mpr ⟨fun j _ => ?_, ?_⟩
      · refine List.pairwise_map.mpr (h.n.imp fun {a b} hab e => hab (last_inj e).1)
      · refine (List.pairwise_lt_range).imp fun {i j} hij a ha b hb e => ?_
        obtain ⟨t, _, rfl⟩ := List.mem_map.mp ha
        obtain ⟨u, _, rfl⟩ := List.mem_map.mp hb
        have := (last_inj e).2
        have : i + 1 = j + 1 := (Prod.mk.inj this).2
        omega
    · obtain ⟨j, _, hb⟩ := List.mem_flatMap.mp hb
      obtain ⟨u, _, rfl⟩ := List.mem_map.mp hb
      exact nk a ha j u e
  · refine mem_dts.mpr (.inr ⟨y.2 - 1, by omega, dn, h.m, ?_⟩)
    rw [Nat.sub_add_cancel hy.2]
/-! the law's order of them -/
def dlw (D : List Nat) (y : Nat × Nat) : List Nat := D.flatMap fun d => (List.range (y.2 + 1)).map fun j => d * y.1 ^ j
theorem fm_cons {α β : Type} (g : α → β) (h : α → List β) : ∀ ys : List α, (ys.map g ++ ys.flatMap h).Perm (ys.flatMap fun b => g b :: h b)
  | [] => .refl _
  | b :: ys => by
    rw [List.map_cons, List.flatMap_cons, List.flatMap_cons, List.cons_append, List.cons_append]
    refine List.Perm.cons _ ?_
    refine (List.perm_append_comm_assoc _ _ _).trans ?_
    exact (List.Perm.append_left _ (fm_cons g h ys))
theorem fm_swap {α β γ : Type} (f : α → β → γ) (ys : List β) : ∀ xs : List α, (xs.flatMap fun a => ys.map (f a)).Perm (ys.flatMap fun b => xs.map fun a => f a b)
  | [] => by
    have : (ys.flatMap fun b => ([] : List α).map fun a => f a b) = [] := by
      induction ys with
      | nil => rfl
      | cons y ys ih => rw [List.flatMap_cons, ih]; rfl
    rw [this]; exact .refl _
  | a :: xs => by
    rw [List.flatMap_cons]
    refine (List.Perm.append_left _ (fm_swap f ys xs)).trans ?_
    exact fm_cons (f a) (fun b => xs.map fun a => f a b) ys
theorem dlw_perm {D : List Nat} {F : List (List (Nat × Nat))} {y : Nat × Nat} (h : D.Perm (F.map prd)) : (dlw D y).Perm ((dts F y).map prd) := by
  unfold dlw dts
  refine (h.flatMap_right _).trans ?_
  refine (fm_swap (fun d j => d * y.1 ^ j) (List.range (y.2 + 1)) (F.map prd)).trans (List.Perm.of_eq ?_)
  rw [List.range_succ_eq_map, List.flatMap_cons, List.flatMap_map, List.map_append, List.map_flatMap]
  congr 1
  · rw [List.map_map]
    apply List.map_congr_left
    intro s _
    simp
  · congr 1
    funext j
    rw [List.map_map, List.map_map]
    apply List.map_congr_left
    intro s _
    simp only [Function.comp_apply]
    rw [prd_app]
    show prd s * y.1 ^ (j + 1) = prd s * (y.1 ^ (j + 1) * 1)
    rw [Nat.mul_one]
end Wk
set_option Elab.async false
set_option maxRecDepth 100000
set_option maxHeartbeats 4000000
set_option linter.all false
/-! A87e: divisors, as the program and the law list them -/
namespace Wk
open PySem L2
open PyProof.Rows hiding St
def pq (s : List (Nat × Nat)) : Int × Int := ((prd s : Int), (sgl s : Int))
def SF (l : List (Nat × Nat)) : List (List (Nat × Nat)) := l.foldl dts [[]]
theorem SF_app (l : List (Nat × Nat)) (y : Nat × Nat) : SF (l ++ [y]) = dts (SF l) y := by unfold SF; rw [List.foldl_append]; rfl
def part (F : List (List (Nat × Nat))) (p j : Nat) : List (List (Nat × Nat)) := F ++ (List.range j).flatMap fun i => F.map fun s => s ++ [(p, i + 1)]
theorem part_s (F : List (List (Nat × Nat))) (p j : Nat) : part F p (j + 1) = part F p j ++ F.map fun s => s ++ [(p, j + 1)] := by
  unfold part
  rw [List.range_succ, List.flatMap_append, ← List.append_assoc]
  simp
theorem part_len (F : List (List (Nat × Nat))) (p j : Nat) : (part F p j).length = F.length * (j + 1) := by
  unfold part
  rw [List.length_append, flat_len (α := Nat) (c := F.length) (fun i => List.length_map ..), Nat.mul_add, Nat.mul_one, Nat.mul_comm, Nat.add_comm]
theorem pq_app {s : List (Nat × Nat)} {p j : Nat} : pq (s ++ [(p, j)]) = ((prd s : Int) * ((p ^ j : Nat) : Int), (sgl s : Int) * ((gs p j : Nat) : Int)) := by
  unfold pq
  rw [prd_app, sgl_app]
  show (((prd s * (p ^ j * 1) : Nat) : Int), ((sgl s * (gs p j * 1) : Nat) : Int)) = _
  rw [Nat.mul_one, Nat.mul_one, Int.natCast_mul, Int.natCast_mul]
/-- what holds of each -/
theorem Fi.sm {dn : List (Nat × Nat)} {F : List (List (Nat × Nat))} (h : Fi dn F) {n : Nat} (hd : prd dn ∣ n) (hn : 0 < n) (hb : n ≤ 4 * 10 ^ 7) {s : List (Nat × Nat)} (hs : s ∈ F) : 1 ≤ prd s ∧ prd s ∣ n ∧ prd s ≤ n ∧ sgl s = sg (prd s) ∧ sgl s ≤ 16 * 10 ^ 14 := by
  have h1 := Nat.dvd_trans (h.d s hs) hd
  have h2 := Nat.le_of_dvd hn h1
  have h3 := prd_pos (h.g s hs).ok2
  have h4 : sgl s = sg (prd s) := by unfold sg; rw [pf_of (h.g s hs) (by omega)]
  have h5 := sg_le (n := prd s) (by omega) (by omega)
  have h6 : prd s * prd s ≤ 4 * 10 ^ 7 * (4 * 10 ^ 7) := Nat.mul_le_mul (by omega) (by omega)
  exact ⟨h3, h1, h2, h4, by omega⟩
theorem gd_pre {a b : List (Nat × Nat)} (h : Gd (a ++ b)) : Gd a := ⟨(List.pairwise_append.mp h.s).1, fun y hy => h.p y (List.mem_append_left _ hy)⟩
theorem Fi.all : ∀ {l : List (Nat × Nat)}, Gd l → Fi l (SF l) := by
  intro l
  induction h : l.length generalizing l with
  | zero => intro _; rw [List.length_eq_zero_iff.mp h]; exact Fi.start
  | succ k ih =>
    intro hg
    rcases List.eq_nil_or_concat l with e | ⟨w, u, e⟩
    · rw [e] at h; cases h
    · rw [List.concat_eq_append] at e
      subst e
      rw [SF_app]
      exact (ih (by rw [List.length_append] at h; simpa using h) (gd_pre hg)).next hg
theorem divisors_told_ok {n : Nat} (h : NB n) (hnd : nd (pf n) ≤ 10 ^ 7) : m_divisors_told n = some (srt2 ((SF (pf n)).map pq)) := by
  unfold m_divisors_told
  have hg := pf_gd h.p (by have := h.b; omega)
  have hpd := pf_prd h.p (by have := h.b; omega)
  have hnb := h.b
  have hit := pf_it h.p h.b
  refine tt_eq (tt_grd.mpr ⟨by simp, tt_bnd.mpr ((tt_lft (prime7 h)).mpr (Tt.then (P' := fun st _ => st = (SF (pf n)).map pq) ?_ fun st _ e => tt_bnd.mpr (tt_pure.mpr (by rw [e]))))⟩)
  refine (Tt.lp (I := fun xs (st : List (Int × Int)) _ => ∃ (dn rest : List (Nat × Nat)), pf n = dn ++ rest ∧ xs = pfi rest ∧ st = (SF dn).map pq) ?_ _ _ _ ⟨[], pf n, rfl, rfl, rfl⟩).mono ?_
  · rintro x xs st s1 ⟨dn, rest, e1, e2, rfl⟩
    cases rest with
    | nil => cases e2
    | cons y rest =>
      have e2 : x :: xs = ((y.1 : Int), (y.2 : Int)) :: pfi rest := e2
      obtain ⟨rfl, rfl⟩ := List.cons.inj e2
      rw [e1] at hg hpd hnd
      have hy := hit y (by rw [e1]; simp)
      have hgd : Gd (dn ++ [y]) := by
        rw [show dn ++ y :: rest = (dn ++ [y]) ++ rest by simp] at hg
        exact gd_pre hg
      have hF := Fi.all (gd_pre hgd)
      have hdv : prd dn ∣ n := by rw [← hpd, prd_app]; exact Nat.dvd_mul_right ..
      have hln : (SF dn).length * (y.2 + 1) ≤ 10 ^ 7 := by
        rw [hF.l]
        rw [nd_app] at hnd
        have : nd dn * ((y.2 + 1) * nd rest) ≤ 10 ^ 7 := hnd
        rw [← Nat.mul_assoc] at this
        exact Nat.le_trans (Nat.le_mul_of_pos_right _ (nd_pos rest)) this
      refine tt_bnd.mpr (tt_bnd.mpr (tt_bnd.mpr (tt_grd.mpr ⟨rgb_nat (by show y.2 ≤ _; omega), Tt.then (P' := fun st3 _ => st3.1 = (SF (dn ++ [y])).map pq) ?_ fun st3 _ e3 => tt_bnd.mpr (tt_pure.mpr ⟨dn ++ [y], rest, by rw [e1]; simp, rfl, e3⟩)⟩)))
      refine (Tt.rg (I := fun (x : Int) (st : List (Int × Int) × Int × Int) _ => ∃ j : Nat, x = j ∧ j ≤ y.2 ∧ st = ((part (SF dn) y.1 j).map pq, ((y.1 ^ j : Nat) : Int), ((gs y.1 j : Nat) : Int))) ?_ y.2 0 _ _ (by show (0 : Int) + (y.2 : Int) = (y.2 : Int); omega) ⟨0, rfl, by omega, by unfold part; simp [gs]⟩).mono ?_
      · rintro x st s2 hx ⟨j, rfl, hj, rfl⟩
        have hx : (j : Int) < (y.2 : Int) := hx
        have b1 : y.1 ^ (j + 1) ≤ y.1 ^ y.2 := Nat.pow_le_pow_right (by omega) (by omega)
        have b2 : y.1 ^ j ≤ y.1 ^ y.2 := Nat.pow_le_pow_right (by omega) (by omega)
        have b3 : y.1 ≤ y.1 ^ y.2 := Nat.le_self_pow (by omega) _
        have b4 := gs_le hy.1 (j + 1)
        have e5 : ((y.1 ^ j : Nat) : Int) * (y.1 : Int) = ((y.1 ^ (j + 1) : Nat) : Int) := by rw [Nat.pow_succ]; push_cast; rfl
        have e6 : ((gs y.1 j : Nat) : Int) + ((y.1 ^ (j + 1) : Nat) : Int) = ((gs y.1 (j + 1) : Nat) : Int) := by rw [gs_s]; push_cast; rfl
        have l1 : (SF dn).length * 1 ≤ (SF dn).length * (y.2 + 1) := Nat.mul_le_mul_left _ (by omega)
        have l2 : (SF dn).length * (j + 1 + 1) ≤ (SF dn).length * (y.2 + 1) := Nat.mul_le_mul_left _ (by omega)
        refine tt_grd.mpr ⟨⟨sm_nat (by omega), sm_nat (by omega)⟩, ?_⟩
        show Tt s2 (bnd (((y.1 ^ j : Nat) : Int) * (y.1 : Int)) _) _
        rw [e5]
        refine tt_bnd.mpr ?_
        show Tt s2 (bnd (((gs y.1 j : Nat) : Int) + ((y.1 ^ (j + 1) : Nat) : Int)) _) _
        rw [e6]
        refine tt_bnd.mpr (tt_grd.mpr ⟨by rw [List.length_map]; omega, ?_⟩)
        refine tt_map (xs := (SF dn).map pq) (g := fun x : Int × Int => (x.1 * ((y.1 ^ (j + 1) : Nat) : Int), x.2 * ((gs y.1 (j + 1) : Nat) : Int))) (fun x hx s3 Q hQ => ?_) ?_
        · obtain ⟨s, hs, rfl⟩ := List.mem_map.mp hx
          have hm := hF.sm hdv h.p h.b hs
          exact tt_grd.mpr ⟨⟨sm_nat (by omega), sm_nat (by omega)⟩, tt_grd.mpr ⟨⟨sm_nat (by omega), sm_nat (by omega)⟩, tt_pure.mpr hQ⟩⟩
        · have el : (part (SF dn) y.1 (j + 1)).length = (SF dn).length * (j + 1 + 1) := part_len ..
          have ee : (part (SF dn) y.1 j).map pq ++ ((SF dn).map pq).map (fun x : Int × Int => (x.1 * ((y.1 ^ (j + 1) : Nat) : Int), x.2 * ((gs y.1 (j + 1) : Nat) : Int))) = (part (SF dn) y.1 (j + 1)).map pq := by
            rw [part_s, List.map_append, List.map_map, List.map_map]
            congr 1
            apply List.map_congr_left
            intro s _
            exact pq_app.symm
          refine tt_grd.mpr ⟨?_, tt_bnd.mpr (tt_pure.mpr ⟨j + 1, by push_cast; rfl, by omega, by rw [← ee]⟩)⟩
          show ((part (SF dn) y.1 j).map pq).length + _ ≤ _
          rw [← List.length_append, ee, List.length_map, el]; omega
      · rintro st3 s2 ⟨j, e, _, rfl⟩
        have : j = y.2 := by
          have e : (y.2 : Int) = (j : Int) := e
          omega
        subst this
        show (part (SF dn) y.1 y.2).map pq = _
        rw [SF_app]; rfl
  · rintro st s1 ⟨dn, rest, e1, e2, rfl⟩
    have : rest = [] := by cases rest with
      | nil => rfl
      | cons _ _ => cases e2
    subst this
    rw [List.append_nil] at e1
    rw [e1]
/-- the divisors -/
def dvs (n : Nat) : List Int := srt ((SF (pf n)).map fun s => ((prd s : Nat) : Int))
theorem law_flat_ok {rows : List (List Int)} (h : rows.flatten.length ≤ 16000000) : m__law_flat rows = some rows.flatten := by
  unfold m__law_flat
  refine tt_eq (tt_grd.mpr ⟨by simp, tt_bnd.mpr (Tt.then (P' := fun st _ => st = rows.flatten) ?_ fun st _ e => tt_bnd.mpr (tt_pure.mpr e))⟩)
  refine (Tt.lp (I := fun xs (st : List Int) _ => st ++ xs.flatten = rows.flatten) ?_ _ _ _ rfl).mono fun st _ e => by simpa using e
  rintro x xs st s e
  have e : st ++ (x ++ xs.flatten) = rows.flatten := e
  refine tt_grd.mpr ⟨?_, tt_bnd.mpr (tt_pure.mpr (by rw [List.append_assoc]; exact e))⟩
  rw [← e, List.length_append, List.length_append] at h
  omega
theorem law_divisors_ok {n : Nat} (hn : 0 < n) (hb : n ≤ 4 * 10 ^ 7) (hnd : nd (pf n) ≤ 10 ^ 7) : m__law_divisors (pfi (pf n)) = some (dvs n) := by
  unfold m__law_divisors
  have hg := pf_gd hn (by omega)
  have hpd := pf_prd hn (by omega)
  have hit := pf_it hn hb
  refine tt_eq (tt_grd.mpr ⟨by simp, tt_bnd.mpr (Tt.then (P' := fun st _ => st.Perm ((SF (pf n)).map fun s => ((prd s : Nat) : Int))) ?_ fun st _ e => tt_bnd.mpr (tt_pure.mpr ?_))⟩)
  · refine (Tt.lp (I := fun xs (st : List Int) _ => ∃ (dn rest : List (Nat × Nat)) (D : List Nat), pf n = dn ++ rest ∧ xs = pfi rest ∧ st = D.map (fun d : Nat => (d : Int)) ∧ D.Perm ((SF dn).map prd)) ?_ _ _ _ ⟨[], pf n, [1], rfl, rfl, rfl, .refl _⟩).mono ?_
    · rintro x xs st s1 ⟨dn, rest, D, e1, e2, rfl, hD⟩
      cases rest with
      | nil => cases e2
      | cons y rest =>
        have e2 : x :: xs = ((y.1 : Int), (y.2 : Int)) :: pfi rest := e2
        obtain ⟨rfl, rfl⟩ := List.cons.inj e2
        rw [e1] at hg hpd hnd
        have hy := hit y (by rw [e1]; simp)
        have hgd : Gd (dn ++ [y]) := by
          rw [show dn ++ y :: rest = (dn ++ [y]) ++ rest by simp] at hg
          exact gd_pre hg
        have hF := Fi.all (gd_pre hgd)
        have hF2 := Fi.all hgd
        have hdv : prd dn ∣ n := by rw [← hpd, prd_app]; exact Nat.dvd_mul_right ..
        have hln : nd (dn ++ [y]) ≤ 10 ^ 7 := by
          rw [show dn ++ y :: rest = (dn ++ [y]) ++ rest by simp, nd_app] at hnd
          exact Nat.le_trans (Nat.le_mul_of_pos_right _ (nd_pos rest)) hnd
        have hDl : D.length ≤ 10 ^ 7 := by
          rw [hD.length_eq, List.length_map, hF.l]
          rw [nd_app] at hln
          exact Nat.le_trans (Nat.le_mul_of_pos_right _ (nd_pos [y])) hln
        have hP := dlw_perm (y := y) hD
        rw [← SF_app] at hP
        have er : rng 0 ((y.2 : Int) + 1) = (List.range (y.2 + 1)).map fun j => ((j : Nat) : Int) := by
          unfold rng
          have : ((y.2 : Int) + 1 - 0).toNat = y.2 + 1 := by omega
          rw [this]
          apply List.map_congr_left
          intro j _
          omega
        refine tt_grd.mpr ⟨⟨by show _ ≤ (y.2 : Int) + 1; omega, by show (y.2 : Int) + 1 < _; omega⟩, tt_grd.mpr ⟨by show (rng 0 ((y.2 : Int) + 1)).length ≤ _; rw [rng_len]; omega, ?_⟩⟩
        show Tt s1 (Wk.cmp (rng 0 ((y.2 : Int) + 1)) _ >>= _) _
        rw [er]
        refine tt_map (xs := (List.range (y.2 + 1)).map fun j => ((j : Nat) : Int)) (g := fun x : Int => ((y.1 ^ x.toNat : Nat) : Int)) (fun x hx s Q hQ => ?_) (tt_bnd.mpr (tt_grd.mpr ⟨by rw [List.length_map]; omega, ?_⟩))
        · obtain ⟨j, hj, rfl⟩ := List.mem_map.mp hx
          have hj := List.mem_range.mp hj
          have hjp : y.1 ^ j ≤ y.1 ^ y.2 := Nat.pow_le_pow_right (by omega) (by omega)
          rw [Int.toNat_natCast] at hQ
          exact (tt_lft (raised_ok (by omega) (by omega) (by omega))).mpr (tt_pure.mpr hQ)
        · refine tt_map (xs := D.map fun d : Nat => (d : Int)) (g := fun x : Int => ((List.range (y.2 + 1)).map fun j => ((j : Nat) : Int)).map (fun j : Int => ((y.1 ^ j.toNat : Nat) : Int)) |>.map fun q => x * q) (fun x hx s Q hQ => ?_) ?_
          · refine tt_grd.mpr ⟨by rw [List.length_map, List.length_map, List.length_range]; omega, tt_map (g := fun q : Int => x * q) (fun q hq s2 Q2 hQ2 => tt_grd.mpr ⟨⟨?_, ?_⟩, tt_pure.mpr hQ2⟩) (tt_pure.mpr hQ)⟩
            · obtain ⟨d, hd, rfl⟩ := List.mem_map.mp hx
              obtain ⟨t, ht, rfl⟩ := List.mem_map.mp (hD.mem_iff.mp hd)
              have := hF.sm hdv hn hb ht
              exact sm_nat (by omega)
            · obtain ⟨i, hi, rfl⟩ := List.mem_map.mp hq
              obtain ⟨j, hj, rfl⟩ := List.mem_map.mp hi
              have hj := List.mem_range.mp hj
              have hjp : y.1 ^ j ≤ y.1 ^ y.2 := Nat.pow_le_pow_right (by omega) (by omega)
              rw [Int.toNat_natCast]
              exact sm_nat (by omega)
          · have ef : ((D.map fun d : Nat => (d : Int)).map fun x : Int => ((List.range (y.2 + 1)).map fun j => ((j : Nat) : Int)).map (fun j : Int => ((y.1 ^ j.toNat : Nat) : Int)) |>.map fun q => x * q).flatten = (dlw D y).map fun d : Nat => (d : Int) := by
              unfold dlw
              rw [List.map_flatMap, List.flatMap_def, List.map_map]
              congr 1
              apply List.map_congr_left
              intro d _
              simp only [Function.comp_apply]
              rw [List.map_map, List.map_map, List.map_map]
              apply List.map_congr_left
              intro j _
              simp only [Function.comp_apply, Int.toNat_natCast]
              rw [Int.natCast_mul]
            have hfl : m__law_flat ((D.map fun d : Nat => (d : Int)).map fun x : Int => ((List.range (y.2 + 1)).map fun j => ((j : Nat) : Int)).map (fun j : Int => ((y.1 ^ j.toNat : Nat) : Int)) |>.map fun q => x * q) = some ((dlw D y).map fun d : Nat => (d : Int)) := by
              rw [← ef]
              refine law_flat_ok ?_
              rw [ef, List.length_map, hP.length_eq, List.length_map, hF2.l]
              omega
            exact (tt_lft hfl).mpr (tt_bnd.mpr (tt_pure.mpr ⟨dn ++ [y], rest, dlw D y, by rw [e1]; simp, rfl, rfl, hP⟩))
    · rintro st s1 ⟨dn, rest, D, e1, e2, rfl, hD⟩
      have : rest = [] := by cases rest with
        | nil => rfl
        | cons _ _ => cases e2
      subst this
      rw [List.append_nil] at e1
      rw [e1]
      have := hD.map (fun d : Nat => (d : Int))
      rw [List.map_map] at this
      exact this
  · exact sorted_one ((srt_perm st).trans (e.trans (srt_perm _).symm)) (srt_sorted _) (srt_sorted _)
end Wk
set_option Elab.async false
set_option maxRecDepth 100000
set_option maxHeartbeats 4000000
set_option linter.all false
/-! A87f: kinds, the first rich divisor -/
namespace Wk
open PySem L2
open PyProof.Rows hiding St
def sgz (d : Int) : Int := (sg d.toNat : Int)
theorem pairs_eq {n : Nat} (hn : 0 < n) (hb : n ≤ 4 * 10 ^ 7) : srt2 ((SF (pf n)).map pq) = (dvs n).map fun d => (d, sgz d) := by
  have hF := Fi.all (pf_gd hn (by omega))
  have hpd := pf_prd hn (by omega)
  have hp : ((SF (pf n)).map fun s => ((prd s : Nat) : Int)).Perm (dvs n) := (srt_perm _).symm
  refine sorted2_one ((srt2_perm _).trans ?_) (srt2_sorted _) (List.pairwise_map.mpr ((srt_sorted _).imp fun {a b} h => leP_iff.mpr ?_))
  · have h2 := hp.map (fun d : Int => (d, sgz d))
    rw [List.map_map] at h2
    refine List.Perm.trans (List.Perm.of_eq ?_) h2
    apply List.map_congr_left
    intro s hs
    have hm := hF.sm (by rw [hpd]; exact Nat.dvd_refl n) hn hb hs
    show ((prd s : Int), (sgl s : Int)) = ((prd s : Int), sgz ((prd s : Nat) : Int))
    unfold sgz
    rw [Int.toNat_natCast, hm.2.2.2.1]
  · show a < b ∨ (a = b ∧ sgz a ≤ sgz b)
    have h : a ≤ b := h
    by_cases z : a = b
    · exact .inr ⟨z, by rw [z]; exact Int.le_refl _⟩
    · exact .inl (by omega)
theorem dvs_mem {n : Nat} (hn : 0 < n) (hb : n ≤ 4 * 10 ^ 7) {d : Int} (h : d ∈ dvs n) : 1 ≤ d ∧ d ≤ n ∧ sgz d ≤ 16 * 10 ^ 14 := by
  have hF := Fi.all (pf_gd hn (by omega))
  have hpd := pf_prd hn (by omega)
  obtain ⟨s, hs, rfl⟩ := List.mem_map.mp ((srt_perm _).mem_iff.mp h)
  have hm := hF.sm (by rw [hpd]; exact Nat.dvd_refl n) hn hb hs
  unfold sgz
  rw [Int.toNat_natCast, ← hm.2.2.2.1]
  omega
theorem dvs_lt {n : Nat} (hn : 0 < n) (hb : n ≤ 4 * 10 ^ 7) : (dvs n).Pairwise (· < ·) := by
  have hg := pf_gd hn (by omega)
  have hF := Fi.all hg
  have hpd := pf_prd hn (by omega)
  have hnd : ((SF (pf n)).map fun s => ((prd s : Nat) : Int)).Nodup := by
    refine List.pairwise_map.mpr (List.Pairwise.imp_of_mem ?_ hF.n)
    intro a b ha hb' hab e
    have e : prd a = prd b := by omega
    have ha' := hF.sm (by rw [hpd]; exact Nat.dvd_refl n) hn hb ha
    have hb'' := hF.sm (by rw [hpd]; exact Nat.dvd_refl n) hn hb hb'
    have h1 := pf_of (hF.g a ha) (by omega)
    have h2 := pf_of (hF.g b hb') (by omega)
    rw [e, h2] at h1
    exact hab h1.symm
  have h2 : (dvs n).Nodup := (srt_perm _).nodup_iff.mpr hnd
  have h3 := (srt_sorted ((SF (pf n)).map fun s => ((prd s : Nat) : Int)))
  exact (List.Pairwise.and h3 h2).imp fun {a b} h => by have h1 : a ≤ b := h.1; have h2 : a ≠ b := h.2; omega
theorem dvs_last {n : Nat} (hn : 0 < n) (hb : n ≤ 4 * 10 ^ 7) : ∃ w, dvs n = w ++ [(n : Int)] ∧ ∀ d ∈ w, d < n := by
  have hF := Fi.all (pf_gd hn (by omega))
  have hpd := pf_prd hn (by omega)
  have hmem : (n : Int) ∈ dvs n := (srt_perm _).mem_iff.mpr (List.mem_map.mpr ⟨pf n, hF.m, by rw [hpd]⟩)
  have hl := dvs_lt hn hb
  rcases List.eq_nil_or_concat (dvs n) with e | ⟨w, u, e⟩
  · rw [e] at hmem; cases hmem
  · rw [List.concat_eq_append] at e
    have hu := dvs_mem hn hb (show u ∈ dvs n by rw [e]; simp)
    rw [e] at hmem hl
    have hp := List.pairwise_append.mp hl
    have hun : u = n := by
      rcases List.mem_append.mp hmem with z | z
      · have := hp.2.2 _ z u (by simp); omega
      · exact (List.mem_singleton.mp z).symm
    subst hun
    exact ⟨w, e, fun d hd => hp.2.2 d hd _ (by simp)⟩
theorem atI_endP {l : List (Int × Int)} {x : Int × Int} : L2.atI (l ++ [x]) (-1) = some x := by
  rw [atI_last (n := l.length) (by simp)]
  simp
theorem excess_of_ok {n : Nat} (h : NB n) (hnd : nd (pf n) ≤ 10 ^ 7) : m_excess_of n = some ((sg n : Int) - 2 * (n : Int)) := by
  unfold m_excess_of
  obtain ⟨w, e, _⟩ := dvs_last h.p h.b
  have hb := h.b
  refine tt_eq ((tt_lft (divisors_told_ok h hnd)).mpr ?_)
  rw [pairs_eq h.p h.b, e, List.map_append]
  refine (tt_lft atI_endP).mpr (tt_grd.mpr ⟨⟨sm_small (by decide), sm_nat (by omega)⟩, tt_bnd.mpr (tt_pure.mpr ?_)⟩)
  show sgz n - _ = _
  unfold sgz
  rw [Int.toNat_natCast]
def knd (e : Int) : Str := if e = 0 then "whole" else if 0 < e then "rich" else "poor"
theorem kind_of_ok {n : Nat} (h : NB n) (hnd : nd (pf n) ≤ 10 ^ 7) : m_kind_of n = some (knd ((sg n : Int) - 2 * (n : Int))) := by
  unfold m_kind_of knd
  refine tt_eq ((tt_lft (excess_of_ok h hnd)).mpr (tt_bnd.mpr ?_))
  generalize (sg n : Int) - 2 * (n : Int) = e
  by_cases z : e = 0
  · exact Tt.pos (decide_eq_true z) (tt_bnd.mpr (tt_pure.mpr (by rw [if_pos z])))
  · refine Tt.neg (by rw [decide_eq_false z]; decide) (tt_bnd.mpr (tt_pure.mpr ?_))
    rw [if_neg z]
    by_cases y : 0 < e
    · rw [if_pos y, if_pos (decide_eq_true y)]
    · rw [if_neg y, if_neg (by rw [decide_eq_false y]; decide)]
def rich (d : Int) : Bool := decide (2 * d ≤ sgz d)
theorem first_divisor_ok {n : Nat} (h : NB n) (hnd : nd (pf n) ≤ 10 ^ 7) : m_first_divisor n = some ((dvs n).find? rich) := by
  unfold m_first_divisor
  have hb := h.b
  refine tt_eq ((tt_lft (divisors_told_ok h hnd)).mpr ?_)
  rw [pairs_eq h.p h.b]
  refine Tt.then (P' := fun o _ => match o with | .go _ => (dvs n).find? rich = none | .brk _ => (dvs n).find? rich = none | .ret r => r = (dvs n).find? rich) ?_ ?_
  · refine Tt.lpC (I := fun xs _ _ => ∃ ds, xs = ds.map (fun d => (d, sgz d)) ∧ (∀ d ∈ ds, d ∈ dvs n) ∧ (dvs n).find? rich = ds.find? rich) ?_ ?_ _ _ _ ⟨dvs n, rfl, fun d hd => hd, rfl⟩
    · rintro x xs st s ⟨ds, e1, e2, e3⟩
      cases ds with
      | nil => cases e1
      | cons d ds =>
        obtain ⟨rfl, rfl⟩ := List.cons.inj e1
        have hd := dvs_mem h.p h.b (e2 d (List.mem_cons_self ..))
        refine tt_grd.mpr ⟨⟨sm_small (by decide), sm_small (by show d.natAbs ≤ _; omega)⟩, ?_⟩
        by_cases z : 2 * d ≤ sgz d
        · refine Tt.pos (decide_eq_true z) (tt_bnd.mpr (tt_pure.mpr ?_))
          show some d = _
          rw [e3, List.find?_cons_of_pos (show rich d = true from decide_eq_true z)]
        · refine Tt.neg (by rw [decide_eq_false z]; decide) (tt_pure.mpr ⟨ds, rfl, fun q hq => e2 q (List.mem_cons_of_mem _ hq), ?_⟩)
          rw [e3, List.find?_cons_of_neg (by unfold rich; rw [decide_eq_false z]; decide)]
    · rintro st s ⟨ds, e1, _, e3⟩
      have : ds = [] := by cases ds with
        | nil => rfl
        | cons _ _ => cases e1
      rw [this] at e3
      exact e3
  · intro o s hh
    cases o with
    | go st => exact tt_bnd.mpr (tt_pure.mpr hh.symm)
    | brk st => exact tt_bnd.mpr (tt_pure.mpr hh.symm)
    | ret r => exact tt_pure.mpr hh
theorem is_first_ok {n : Nat} (h : NB n) (hnd : nd (pf n) ≤ 10 ^ 7) : m_is_first_one n = some (decide ((dvs n).filter rich = [(n : Int)])) := by
  unfold m_is_first_one
  refine tt_eq ((tt_lft (first_divisor_ok h hnd)).mpr (tt_bnd.mpr (tt_pure.mpr (decide_eq_decide.mpr ?_))))
  obtain ⟨w, e, hw⟩ := dvs_last h.p h.b
  rw [e, List.find?_append, List.filter_append]
  cases hf : w.find? rich with
  | some d =>
    have hd := List.mem_of_find?_eq_some hf
    have hr := List.find?_some hf
    have hlt := hw d hd
    constructor
    · intro q
      have : d = n := by simpa using q
      omega
    · intro q
      have hm : d ∈ w.filter rich ++ [(n : Int)].filter rich := List.mem_append_left _ (List.mem_filter.mpr ⟨hd, hr⟩)
      rw [q] at hm
      have := List.mem_singleton.mp hm
      omega
  | none =>
    have hn : w.filter rich = [] := List.filter_eq_nil_iff.mpr (List.find?_eq_none.mp hf)
    rw [hn, List.nil_append, Option.none_or]
    cases hr : rich (n : Int) with
    | true => rw [List.find?_cons_of_pos hr, List.filter_cons_of_pos hr]; simp
    | false => rw [List.find?_cons_of_neg (by rw [hr]; decide), List.filter_cons_of_neg (by rw [hr]; decide)]; simp
theorem find_head {l : List Int} {p : Int → Bool} : l.find? p = (if l.filter p = [] then none else (l.filter p)[0]?) := by
  rw [← List.head?_filter]
  cases l.filter p with
  | nil => rfl
  | cons a r => rfl
end Wk
set_option Elab.async false
set_option maxRecDepth 1000000
set_option maxHeartbeats 4000000
set_option linter.all false
/-! A87g: perfect numbers, odd bars -/
namespace Wk
open PySem L2
open PyProof.Rows hiding St
def kl : List Nat := [6, 28, 496, 8128, 33550336]
def klp : List (Nat × Nat) := [(6, 2), (28, 3), (496, 5), (8128, 7), (33550336, 13)]
def leafC (n s : Nat) : Bool := !Nat.beq s (2 * n) || kl.any fun k => Nat.beq n k
theorem leaf_kl {n s : Nat} (h : leafC n s = true) (e : s = 2 * n) : n ∈ kl := by
  unfold leafC at h
  rw [Bool.or_eq_true] at h
  rcases h with z | z
  · rw [e, show Nat.beq (2 * n) (2 * n) = true by rw [Nat.beq_eq]] at z; cases z
  · obtain ⟨k, hk, e⟩ := List.any_eq_true.mp z
    rw [Nat.beq_eq] at e
    rw [e]; exact hk
noncomputable def klC (n p : Nat) : Bool := decide (m_perfect_exponent n = some (some (p : Int))) && decide (m_even_perfect p = some (n : Int)) && decide (m_two_less_is_prime p = some true) && Nat.beq (sg n) (2 * n)
theorem klC1 : klC 6 2 = true := by decide +kernel
theorem klC2 : klC 28 3 = true := by decide +kernel
theorem klC3 : klC 496 5 = true := by decide +kernel
theorem klC4 : klC 8128 7 = true := by decide +kernel
theorem klC5 : klC 33550336 13 = true := by decide +kernel
theorem kl_get {n : Nat} (h : n ∈ kl) : ∃ p, klC n p = true ∧ 2 ≤ p ∧ p ≤ 607 := by
  unfold kl at h
  simp only [List.mem_cons, List.not_mem_nil, or_false] at h
  rcases h with rfl | rfl | rfl | rfl | rfl
  · exact ⟨2, klC1, by decide, by decide⟩
  · exact ⟨3, klC2, by decide, by decide⟩
  · exact ⟨5, klC3, by decide, by decide⟩
  · exact ⟨7, klC4, by decide, by decide⟩
  · exact ⟨13, klC5, by decide, by decide⟩
theorem two_less_ok {p : Nat} (h : p ≤ 607) : m_two_less p = some ((2 ^ p - 1 : Nat) : Int) := by
  unfold m_two_less
  have h1 : 1 ≤ 2 ^ p := Nat.pow_pos (by decide)
  refine tt_eq (tt_grd.mpr ⟨⟨sm_small (by decide), by omega, by omega⟩, tt_bnd.mpr (tt_pure.mpr ?_)⟩)
  rw [Int.toNat_natCast, Int.one_mul]
  have : (2 : Int) ^ p = ((2 ^ p : Nat) : Int) := by push_cast; rfl
  rw [this]
  omega
noncomputable def tlC (p : Nat) : Bool := decide (m_two_less_is_prime p = some (kl.any fun k => Nat.beq k (2 ^ (p - 1) * (2 ^ p - 1))))
theorem tl_all : (List.range 12).all (fun i => tlC (i + 2)) = true := by decide +kernel
theorem exp_none {n : Nat} (hn : 0 < n) (hb : n ≤ 4 * 10 ^ 7) (hk : n ∉ kl) : m_perfect_exponent n = some none := by
  unfold m_perfect_exponent
  refine tt_eq (tt_bnd.mpr (tt_bnd.mpr (Tt.then (P' := fun st _ => st = (((1 + vp 2 n : Nat) : Int), ((n / 2 ^ vp 2 n : Nat) : Int))) ?_ ?_)))
  · refine Tt.wh (I := fun (st : Int × Int) _ => ∃ k j : Nat, st = ((j : Int), (k : Int)) ∧ 0 < k ∧ k ≤ n ∧ j + vp 2 k = 1 + vp 2 n ∧ k / 2 ^ vp 2 k = n / 2 ^ vp 2 n) (nu := fun st => st.2.toNat) ?_ many _ _ ⟨n, 1, rfl, hn, Nat.le_refl _, rfl, rfl⟩ (lt_many (by simp; omega))
    rintro st s k P ⟨m, j, rfl, h0, hle, h1, h2⟩ hkk
    refine tt_grd.mpr ⟨by decide, hkk _ _ (fun ht => ?_) (fun ht => ?_)⟩
    · have hd : m % 2 = 0 := by simp only [decide_eq_true_eq] at ht; omega
      refine tt_bnd.mpr (tt_grd.mpr ⟨dv_nat (p := 2) (by omega) (by decide), tt_bnd.mpr (tt_pure.mpr ⟨⟨m / 2, j + 1, by rw [show (m : Int) / 2 = ((m / 2 : Nat) : Int) by omega]; rfl, by omega, by omega, ?_, ?_⟩, ?_⟩)⟩)
      · rw [vp_s h0 (by decide) hd] at h1; omega
      · rw [← h2, vp_s h0 (by decide) hd, Nat.pow_succ, Nat.mul_comm (2 ^ _) 2, ← Nat.div_div_eq_div_mul]
      · show ((m : Int) / 2).toNat < (m : Int).toNat
        omega
    · have hd : m % 2 ≠ 0 := by simp only [decide_eq_false_iff_not] at ht; omega
      rw [vp_no hd] at h1 h2
      rw [Nat.pow_zero, Nat.div_one] at h2
      show ((j : Int), (m : Int)) = _
      rw [← h2, ← h1, Nat.add_zero]
  · rintro st s1 rfl
    have hsp := vp_split (p := 2) (n := n) (by decide) hn
    generalize hv : vp 2 n = v at *
    generalize n / 2 ^ v = r at *
    have hlog : v < 26 := by rw [← hv]; exact vp_log (by decide) hn (by omega)
    by_cases hc : v = 0
    · subst hc
      exact Tt.then (P' := fun b _ => b = true) (Tt.pos (by show (!((decide ((2 : Int) ≤ ((1 + 0 : Nat) : Int))) && _)) = true; rw [decide_eq_false (by omega)]; rfl) (tt_pure.mpr rfl)) fun b _ e => by subst e; exact Tt.pos rfl (tt_bnd.mpr (tt_pure.mpr rfl))
    · have h1 : (!((decide ((2 : Int) ≤ ((1 + v : Nat) : Int))) && (decide (((1 + v : Nat) : Int) ≤ (607 : Int))))) = false := by
        rw [decide_eq_true (by omega), decide_eq_true (by omega)]; rfl
      refine Tt.then (P' := fun b _ => b = !decide ((r : Int) = ((2 ^ (1 + v) - 1 : Nat) : Int))) (Tt.neg (by show ¬ (!_) = true; rw [h1]; decide) ((tt_lft (two_less_ok (by omega))).mpr (tt_pure.mpr rfl))) ?_
      rintro b _ rfl
      by_cases hr : (r : Int) = ((2 ^ (1 + v) - 1 : Nat) : Int)
      · refine Tt.neg (by rw [decide_eq_true hr]; decide) ?_
        have hr : r = 2 ^ (1 + v) - 1 := by omega
        have hv12 : v ≤ 12 := Nat.le_of_not_lt fun z => by
          have a1 : 2 ^ 13 ≤ 2 ^ v := Nat.pow_le_pow_right (by decide) z
          have a2 : 2 ^ 14 ≤ 2 ^ (1 + v) := Nat.pow_le_pow_right (by decide) (by omega)
          have a3 : 2 ^ 13 * (2 ^ 14 - 1) ≤ 2 ^ v * (2 ^ (1 + v) - 1) := Nat.mul_le_mul a1 (by omega)
          rw [hsp, hr] at hb
          have : (2 : Nat) ^ 13 * (2 ^ 14 - 1) = 134209536 := by decide
          omega
        have ht := List.all_eq_true.mp tl_all (v - 1) (List.mem_range.mpr (by omega))
        rw [show v - 1 + 2 = 1 + v by omega] at ht
        unfold tlC at ht
        have ht := of_decide_eq_true ht
        rw [show 1 + v - 1 = v by omega, ← hr, ← hsp] at ht
        have hf : (kl.any fun k => Nat.beq k n) = false := by
          rw [List.any_eq_false]
          intro k hkm hq
          rw [Nat.beq_eq] at hq
          exact hk (hq ▸ hkm)
        rw [hf] at ht
        exact (tt_lft ht).mpr (tt_bnd.mpr (tt_pure.mpr rfl))
      · exact Tt.pos (by rw [decide_eq_false hr]; rfl) (tt_bnd.mpr (tt_pure.mpr rfl))
/-- all that is asked of a number and perfect ones -/
theorem perf_ok {n : Nat} (h : NB n) (hl : leafC n (sg n) = true) : (sg n = 2 * n ∧ ∃ p : Nat, m_perfect_exponent n = some (some (p : Int)) ∧ m_even_perfect p = some (n : Int) ∧ m_perfect_paper n = some (("even" : Str), (p : Int)) ∧ m_perfect_paper_error n (("even" : Str), (p : Int)) = some none) ∨
    (sg n ≠ 2 * n ∧ m_perfect_exponent n = some none ∧ m_perfect_paper n = some (("sum" : Str), (sg n : Int)) ∧ m_perfect_paper_error n (("sum" : Str), (sg n : Int)) = some none) := by
  have hint : ∀ x : Int, m_is_integer x = some true := fun x => by
    unfold m_is_integer
    exact tt_eq (tt_bnd.mpr (tt_pure.mpr rfl))
  have hsm : Sm (n : Int) := sm_nat (by have := h.b; omega)
  have head : ∀ (w : Str) (x : Int) (Q : Bool → Unit → Prop), Q false () → Tt () ((if (!true) = true then pure true else (if (!decide ((2 : Int) = (2 : Int))) = true then pure true else (if (!true) = true then pure true else Mir.lft (m_is_integer ((w, x).2)) >>= fun r170 => pure (!r170)) >>= fun b169 => pure b169) >>= fun b168 => pure b168) : Option Bool) Q := fun w x Q hQ => by
    refine Tt.neg (by decide) (Tt.then (P' := fun b _ => b = false) (Tt.neg (by decide) (Tt.then (P' := fun b _ => b = false) (Tt.neg (by decide) ((tt_lft (hint _)).mpr (tt_pure.mpr rfl))) fun b _ e => tt_pure.mpr e)) fun b _ e => tt_pure.mpr (by rw [e]; exact hQ))
  by_cases hk : n ∈ kl
  · obtain ⟨p, hp, h2, h6⟩ := kl_get hk
    unfold klC at hp
    rw [Bool.and_eq_true, Bool.and_eq_true, Bool.and_eq_true, decide_eq_true_iff, decide_eq_true_iff, decide_eq_true_iff, Nat.beq_eq] at hp
    obtain ⟨⟨⟨h1, h3⟩, h4⟩, h5⟩ := hp
    refine .inl ⟨h5, p, h1, h3, ?_, ?_⟩
    · unfold m_perfect_paper
      exact tt_eq ((tt_lft h1).mpr (tt_bnd.mpr (Tt.pos rfl ((tt_lft (o := some (p : Int)) rfl).mpr (tt_bnd.mpr (tt_pure.mpr rfl))))))
    · unfold m_perfect_paper_error
      refine tt_eq (Tt.then (head _ _ (fun b _ => b = false) rfl) fun b _ e => ?_)
      subst e
      refine Tt.neg (by decide) (tt_bnd.mpr (Tt.pos (show decide (("even" : Str) = ("even" : Str)) = true by decide) (Tt.neg ?_ ((tt_lft h4).mpr (Tt.neg (by decide) ((tt_lft h3).mpr (tt_bnd.mpr (tt_pure.mpr ?_))))))))
      · show ¬ (!((decide ((2 : Int) ≤ (p : Int))) && (decide ((p : Int) ≤ (607 : Int))))) = true
        rw [decide_eq_true (by omega), decide_eq_true (by omega)]; decide
      · rw [decide_eq_true rfl]; rfl
  · have hne : sg n ≠ 2 * n := fun e => hk (leaf_kl hl e)
    have h1 := exp_none h.p h.b hk
    have h2 := divisor_sum_ok h
    have hne' : ¬ (sg n : Int) = 2 * (n : Int) := by omega
    refine .inr ⟨hne, h1, ?_, ?_⟩
    · unfold m_perfect_paper
      refine tt_eq ((tt_lft h1).mpr (tt_bnd.mpr (Tt.neg (by decide) ((tt_lft h2).mpr (tt_bnd.mpr (tt_grd.mpr ⟨⟨sm_small (by decide), hsm⟩, Tt.neg ?_ (tt_bnd.mpr (tt_pure.mpr rfl))⟩))))))
      rw [decide_eq_false hne']; decide
    · unfold m_perfect_paper_error
      refine tt_eq (Tt.then (head _ _ (fun b _ => b = false) rfl) fun b _ e => ?_)
      subst e
      refine Tt.neg (by decide) (tt_bnd.mpr (Tt.neg (show ¬ decide (("sum" : Str) = ("even" : Str)) = true by decide) (Tt.neg (show ¬ (!decide (("sum" : Str) = ("sum" : Str))) = true by decide) ((tt_lft h2).mpr (Tt.neg ?_ (tt_grd.mpr ⟨⟨sm_small (by decide), hsm⟩, tt_bnd.mpr (tt_pure.mpr ?_)⟩))))))
      · rw [decide_eq_true rfl]; decide
      · rw [if_neg]
        show ¬ decide ((sg n : Int) = 2 * (n : Int)) = true
        rw [decide_eq_false hne']; decide
/-! odd bars -/
theorem odd_parts_ok {n : Nat} (h : NB n) : ∃ v, m_odd_parts n = some v := by
  have hpd := pf_prd h.p (by have := h.b; omega)
  have hnb := h.b
  have hit := pf_it h.p h.b
  have ho := pf_ok2 h.p (by omega)
  have hlen := pf_len7 h.p h.b
  suffices hh : ∃ v, m_odd_parts n = some v ∧ True from ⟨hh.choose, hh.choose_spec.1⟩
  refine tt_ex ?_
  unfold m_odd_parts
  refine tt_grd.mpr ⟨by simp, tt_bnd.mpr (tt_bnd.mpr ((tt_lft (prime7 h)).mpr (Tt.then (P' := fun _ _ => True) ?_ ?_)))⟩
  · refine (Tt.lp (I := fun xs (st : List (Int × Int) × Int) _ => ∃ (dn rest : List (Nat × Nat)) (r : Nat), pf n = dn ++ rest ∧ xs = pfi rest ∧ st.2 = (r : Int) ∧ st.1.length ≤ dn.length ∧ r ≤ prd dn) ?_ _ _ _ ⟨[], pf n, 1, rfl, rfl, rfl, Nat.le_refl _, Nat.le_refl _⟩).mono fun _ _ _ => trivial
    rintro x xs ⟨o, r'⟩ s1 ⟨dn, rest, r, e1, e2, e3, e4, e5⟩
    have e3 : r' = (r : Int) := e3
    subst e3
    have e4 : o.length ≤ dn.length := e4
    cases rest with
    | nil => cases e2
    | cons y rest =>
      have e2 : x :: xs = ((y.1 : Int), (y.2 : Int)) :: pfi rest := e2
      obtain ⟨rfl, rfl⟩ := List.cons.inj e2
      have hy := hit y (by rw [e1]; simp)
      have hl : dn.length ≤ 100 := by rw [e1, List.length_append] at hlen; omega
      have hpp : 0 < y.1 ^ y.2 := Nat.pow_pos (by omega)
      have orr : Ok2 rest := fun z hz => ho z (by rw [e1]; exact List.mem_append_right _ (List.mem_cons_of_mem _ hz))
      have q3 : prd dn ≤ n := by
        rw [← hpd, e1, prd_app]
        exact Nat.le_mul_of_pos_right _ (Nat.mul_pos hpp (prd_pos orr))
      have ep : prd (dn ++ [y]) = prd dn * y.1 ^ y.2 := by rw [prd_app]; show _ * (y.1 ^ y.2 * 1) = _; rw [Nat.mul_one]
      refine tt_grd.mpr ⟨by decide, ?_⟩
      by_cases z : (y.2 : Int) % 2 = 1
      · refine Tt.pos (decide_eq_true z) (tt_grd.mpr ⟨by show o.length < _; omega, tt_bnd.mpr (tt_pure.mpr ⟨dn ++ [y], rest, r, by rw [e1]; simp, rfl, rfl, ?_, ?_⟩)⟩)
        · show (o ++ [_]).length ≤ _
          rw [List.length_append, List.length_append]; simp; omega
        · rw [ep]; exact Nat.le_trans e5 (Nat.le_mul_of_pos_right _ hpp)
      · have hle : y.1 ^ (y.2 / 2) ≤ y.1 ^ y.2 := Nat.pow_le_pow_right (by omega) (by omega)
        have e6 : (y.2 : Int) / 2 = ((y.2 / 2 : Nat) : Int) := by omega
        have e7 : m_power_of (y.1 : Int) ((y.2 : Int) / 2) = some ((y.1 ^ (y.2 / 2) : Nat) : Int) := by rw [e6]; exact power_of_ok (by omega) (by omega) (by omega)
        refine Tt.neg (by rw [decide_eq_false z]; decide) (tt_grd.mpr ⟨dv_nat (p := 2) (by omega) (by decide), (tt_lft e7).mpr (tt_grd.mpr ⟨⟨sm_nat (by omega), sm_nat (by omega)⟩, tt_bnd.mpr (tt_pure.mpr ⟨dn ++ [y], rest, r * y.1 ^ (y.2 / 2), by rw [e1]; simp, rfl, by push_cast; rfl, ?_, ?_⟩)⟩)⟩)
        · show o.length ≤ _
          rw [List.length_append]; omega
        · rw [ep]; exact Nat.mul_le_mul e5 hle
  · rintro ⟨o, r⟩ s1 _
    by_cases z : (o.length : Int) = 1
    · obtain ⟨a, ha⟩ : ∃ a, o = [a] := List.length_eq_one_iff.mp (by omega)
      subst ha
      have e : L2.atI [a] (0 : Int) = some a := rfl
      refine Tt.then (P' := fun _ _ => True) (Tt.neg (by rw [decide_eq_true z]; decide) ((tt_lft e).mpr (tt_grd.mpr ⟨by decide, Tt.then (P' := fun _ _ => True) ?_ fun b _ _ => tt_pure.mpr trivial⟩))) ?_
      · by_cases y : a.1 % 4 = 1
        · exact Tt.neg (by rw [decide_eq_true y]; decide) ((tt_lft e).mpr (tt_grd.mpr ⟨by decide, tt_pure.mpr trivial⟩))
        · exact Tt.pos (by rw [decide_eq_false y]; rfl) (tt_pure.mpr trivial)
      · intro b s2 _
        cases b with
        | true => exact Tt.pos rfl (tt_bnd.mpr (tt_pure.mpr trivial))
        | false => exact Tt.neg (by decide) ((tt_lft e).mpr (tt_bnd.mpr (tt_pure.mpr trivial)))
    · refine Tt.then (P' := fun b _ => b = true) (Tt.pos (by rw [decide_eq_false z]; rfl) (tt_pure.mpr rfl)) ?_
      rintro b s2 rfl
      exact Tt.pos rfl (tt_bnd.mpr (tt_pure.mpr trivial))
theorem odd_bar_ok {n : Nat} (h : NB n) : ∃ o, m_odd_bar n = some o ∧ (o = none → ¬ (rch n).1 ≤ 2 * (rch n).2) := by
  obtain ⟨v, hv⟩ := odd_parts_ok h
  refine tt_ex ?_
  unfold m_odd_bar
  refine (tt_lft hv).mpr ?_
  cases v with
  | none => exact Tt.pos rfl (tt_bnd.mpr (tt_pure.mpr fun e => (nomatch e)))
  | some v =>
    have hr := rch_pos h
    have hle := Nat.div_le_self (pB (pf n)) (Nat.gcd (pA (pf n)) (pB (pf n)))
    refine Tt.neg (show ¬ false = true by decide) (tt_grd.mpr ⟨by decide, (tt_lft (prime7 h)).mpr ((tt_lft (reach_of_ok h)).mpr (tt_bnd.mpr (tt_grd.mpr ⟨by decide, ?_⟩)))⟩)
    generalize ((!decide ((((n : Int) % (36 : Int)) % (12 : Int)) = (1 : Int))) && (!decide (((n : Int) % (36 : Int)) = (9 : Int)))) = c
    cases c with
    | true => exact Tt.pos rfl (tt_bnd.mpr (tt_pure.mpr fun e => (nomatch e)))
    | false =>
      refine Tt.neg (by decide) ?_
      by_cases z : ((pfi (pf n)).length : Int) < 3
      · exact Tt.pos (decide_eq_true z) (tt_bnd.mpr (tt_pure.mpr fun e => (nomatch e)))
      · refine Tt.neg (by rw [decide_eq_false z]; decide) (tt_grd.mpr ⟨⟨sm_small (by decide), ?_⟩, tt_bnd.mpr (tt_pure.mpr ?_)⟩)
        · show Sm ((pB (pf n) / Nat.gcd (pA (pf n)) (pB (pf n)) : Nat) : Int)
          exact sm_nat (by omega)
        · intro e q
          rw [if_pos (decide_eq_true q)] at e
          cases e
end Wk
set_option Elab.async false
set_option maxRecDepth 1000000
set_option maxHeartbeats 4000000
set_option linter.all false
/-! A87h: what is drawn -/
namespace Wk
open PySem L2
open PyProof.Rows hiding St
def enp (k : Nat → Nat → Bool) (p s0 : Nat) : Nat → Nat → Nat → Bool
  | 0, _, _ => true
  | f + 1, n, g => if Nat.ble (n * p) 1000000 = true then (k (n * p) (s0 * (g * p + 1)) && enp k p s0 f (n * p) (g * p + 1)) else true
def mfu (p : Nat) : Nat := if p < 6 then 7 else 2
def en : List Nat → Nat → Nat → Bool
  | [], n, s => leafC n s
  | p :: ps, n, s => if Nat.ble (n * p) 1000000 = true then (en ps n s && enp (en ps) p s (mfu p) n 1) else leafC n s
def psL : List Nat := [2, 3, 5, 7, 11, 13, 17, 19, 23, 29, 31, 37, 97, 101, 997, 1009, 10007, 99991, 999983]
theorem en_all : en psL 1 1 = true := by decide +kernel
theorem en_leaf {ps : List Nat} {n s : Nat} (h : ∀ q ∈ ps, 1000000 < n * q) : en ps n s = leafC n s := by
  cases ps with
  | nil => rfl
  | cons q ps =>
    have := h q (List.mem_cons_self ..)
    rw [en, if_neg (by rw [Nat.ble_eq]; omega)]
theorem en_skip {p : Nat} {ps : List Nat} {n s : Nat} (h : en (p :: ps) n s = true) (hp : ∀ q ∈ ps, p < q) : en ps n s = true := by
  rw [en] at h
  by_cases z : Nat.ble (n * p) 1000000 = true
  · rw [if_pos z, Bool.and_eq_true] at h; exact h.1
  · rw [if_neg z] at h
    rw [Nat.ble_eq] at z
    rw [en_leaf fun q hq => ?_]; exact h
    have := Nat.mul_le_mul_left n (Nat.le_of_lt (hp q hq))
    omega
theorem enp_get {k : Nat → Nat → Bool} {p s0 n : Nat} (hp : 1 ≤ p) : ∀ (f i : Nat), enp k p s0 f (n * p ^ i) (gs p i) = true → ∀ e, i < e → e ≤ i + f → n * p ^ e ≤ 1000000 → k (n * p ^ e) (s0 * gs p e) = true
  | 0, i, _, e, h1, h2, _ => by omega
  | f + 1, i, h, e, h1, h2, h3 => by
    have h4 : n * p ^ (i + 1) ≤ n * p ^ e := Nat.mul_le_mul_left _ (Nat.pow_le_pow_right hp h1)
    have e1 : n * p ^ i * p = n * p ^ (i + 1) := by rw [Nat.mul_assoc, Nat.pow_succ]
    rw [enp, e1, if_pos (by rw [Nat.ble_eq]; omega), Bool.and_eq_true] at h
    by_cases z : e = i + 1
    · subst z; exact h.1
    · exact enp_get hp f (i + 1) h.2 e (by omega) (by omega) h3
theorem en_take {p : Nat} {ps : List Nat} {n s e : Nat} (h : en (p :: ps) n s = true) (hp : 1 ≤ p) (h1 : 1 ≤ e) (h2 : e ≤ mfu p) (h3 : n * p ^ e ≤ 1000000) : en ps (n * p ^ e) (s * gs p e) = true := by
  have hle : n * p ≤ n * p ^ e := Nat.mul_le_mul_left _ (Nat.le_self_pow (by omega) p)
  rw [en, if_pos (by rw [Nat.ble_eq]; omega), Bool.and_eq_true] at h
  exact enp_get (k := en ps) (n := n) hp (mfu p) 0 (by rw [Nat.pow_zero, Nat.mul_one]; exact h.2) e (by omega) (by omega) h3
/-- the numbers that are looked at -/
structure InS (n : Nat) : Prop where
  b : NB n
  l : leafC n (sg n) = true
  d : nd (pf n) ≤ 10 ^ 7
theorem InS.of {n : Nat} (hn : 0 < n) (h : n ≤ 1000000) (hl : leafC n (sg n) = true) : InS n := by
  refine ⟨NB.of hn (by omega), hl, ?_⟩
  have := nd_le (pf_ok2 hn (by omega))
  rw [pf_prd hn (by omega)] at this
  omega
def lfB (lo : Nat) : Bool := (List.range 1000).all fun i => leafC (lo + i) (sg (lo + i))
theorem lf0 : lfB 1 = true := by decide +kernel
theorem lf1 : lfB 1001 = true := by decide +kernel
theorem lf2 : lfB 2001 = true := by decide +kernel
theorem lf3 : lfB 3001 = true := by decide +kernel
theorem lf4 : lfB 4001 = true := by decide +kernel
theorem lf5 : lfB 5001 = true := by decide +kernel
theorem lf6 : lfB 6001 = true := by decide +kernel
theorem lf7 : lfB 7001 = true := by decide +kernel
theorem lf8 : lfB 8001 = true := by decide +kernel
theorem lf9 : lfB 9001 = true := by decide +kernel
theorem lf_get {lo n : Nat} (h : lfB lo = true) (h1 : lo ≤ n) (h2 : n < lo + 1000) : leafC n (sg n) = true := by
  have := List.all_eq_true.mp h (n - lo) (List.mem_range.mpr (by omega))
  rwa [Nat.add_sub_cancel' h1] at this
theorem lf_all {n : Nat} (hn : 0 < n) (h : n ≤ 10000) : leafC n (sg n) = true := by
  by_cases z1 : n < 1001
  · exact lf_get lf0 (by omega) (by omega)
  by_cases z2 : n < 2001
  · exact lf_get lf1 (by omega) (by omega)
  by_cases z3 : n < 3001
  · exact lf_get lf2 (by omega) (by omega)
  by_cases z4 : n < 4001
  · exact lf_get lf3 (by omega) (by omega)
  by_cases z5 : n < 5001
  · exact lf_get lf4 (by omega) (by omega)
  by_cases z6 : n < 6001
  · exact lf_get lf5 (by omega) (by omega)
  by_cases z7 : n < 7001
  · exact lf_get lf6 (by omega) (by omega)
  by_cases z8 : n < 8001
  · exact lf_get lf7 (by omega) (by omega)
  by_cases z9 : n < 9001
  · exact lf_get lf8 (by omega) (by omega)
  · exact lf_get lf9 (by omega) (by omega)
def knL : List Nat := [6, 28, 496, 8128, 33550336, 120, 672, 523776, 30240, 32760]
theorem kn_all : knL.all (fun n => leafC n (sg n) && Nat.ble (nd (pf n)) 10000000) = true := by decide +kernel
theorem kn_get {n : Nat} (h : n ∈ knL) : InS n := by
  have := List.all_eq_true.mp kn_all n h
  rw [Bool.and_eq_true, Nat.ble_eq] at this
  refine ⟨?_, this.1, this.2⟩
  by_cases z : n = 33550336
  · rw [z]; exact nb_big
  · have : ∀ n ∈ knL, n ≠ 33550336 → 0 < n ∧ n ≤ 10 ^ 7 := by decide
    have := this n h z
    exact NB.of this.1 this.2
theorem told_ok : ∀ {ll : List (Nat × Nat)}, Gd ll → prd ll ≤ 1000000 → m__law_told_number (pfi ll) = some ((prd ll : Nat) : Int) := by
  intro ll hg hb
  unfold m__law_told_number
  refine tt_eq (tt_bnd.mpr (Tt.then (P' := fun st _ => st = ((prd ll : Nat) : Int)) ?_ fun st _ e => tt_bnd.mpr (tt_pure.mpr e)))
  refine (Tt.lp (I := fun xs (st : Int) _ => ∃ (dn rest : List (Nat × Nat)), ll = dn ++ rest ∧ xs = pfi rest ∧ st = ((prd dn : Nat) : Int)) ?_ _ _ _ ⟨[], ll, rfl, rfl, rfl⟩).mono ?_
  · rintro x xs st s1 ⟨dn, rest, e1, e2, rfl⟩
    cases rest with
    | nil => cases e2
    | cons y rest =>
      have e2 : x :: xs = ((y.1 : Int), (y.2 : Int)) :: pfi rest := e2
      obtain ⟨rfl, rfl⟩ := List.cons.inj e2
      have ho := hg.ok2
      have hy := ho y (by rw [e1]; simp)
      have od : Ok2 dn := fun z hz => ho z (by rw [e1]; exact List.mem_append_left _ hz)
      have orr : Ok2 rest := fun z hz => ho z (by rw [e1]; exact List.mem_append_right _ (List.mem_cons_of_mem _ hz))
      have hpp : 0 < y.1 ^ y.2 := Nat.pow_pos (by omega)
      have ep : prd (dn ++ [y]) = prd dn * y.1 ^ y.2 := by rw [prd_app]; show _ * (y.1 ^ y.2 * 1) = _; rw [Nat.mul_one]
      have e4 : prd ll = prd dn * (y.1 ^ y.2 * prd rest) := by rw [e1, prd_app]; rfl
      have q1 : prd dn ≤ prd ll := by rw [e4]; exact Nat.le_mul_of_pos_right _ (Nat.mul_pos hpp (prd_pos orr))
      have q2 : y.1 ^ y.2 ≤ prd ll := by rw [e4, Nat.mul_left_comm]; exact Nat.le_mul_of_pos_right _ (Nat.mul_pos (prd_pos od) (prd_pos orr))
      have q3 : 2 ^ y.2 ≤ y.1 ^ y.2 := Nat.pow_le_pow_left hy.1 _
      have q4 : y.2 < 20 := (Nat.pow_lt_pow_iff_right (by decide : 1 < 2)).mp (by omega)
      exact (tt_lft (raised_ok (by omega) (by omega) (by omega))).mpr (tt_grd.mpr ⟨⟨sm_nat (by omega), sm_nat (by omega)⟩, tt_bnd.mpr (tt_pure.mpr ⟨dn ++ [y], rest, by rw [e1]; simp, rfl, by rw [ep]; push_cast; rfl⟩)⟩)
  · rintro st s1 ⟨dn, rest, e1, e2, rfl⟩
    have : rest = [] := by cases rest with
      | nil => rfl
      | cons _ _ => cases e2
    subst this
    rw [List.append_nil] at e1
    rw [e1]
theorem prB_psL : psL.all prB = true := by decide +kernel
theorem parting_of_ok {s : PotT} {b : Nat} (h : Pot s (b + 60)) : Tt s (m__law_parting_of 1000000) fun l s1 => ∃ ll, l = pfi ll ∧ Gd ll ∧ prd ll ≤ 1000000 ∧ leafC (prd ll) (sgl ll) = true ∧ Pot s1 b := by
  unfold m__law_parting_of
  refine tt_grd.mpr ⟨by decide, tt_bnd.mpr (tt_grd.mpr ⟨by simp, tt_bnd.mpr (tt_bnd.mpr (Tt.then (P' := fun st s1 => ∃ ll, st.1 = pfi ll ∧ Gd ll ∧ prd ll ≤ 1000000 ∧ leafC (prd ll) (sgl ll) = true ∧ Pot s1 b) ?_ fun st s1 e => tt_bnd.mpr (tt_pure.mpr e)))⟩)⟩
  refine (Tt.lp (I := fun xs (st : List (Int × Int) × Int) s1 => ∃ (ps : List Nat) (ll : List (Nat × Nat)), xs = ps.map (fun p : Nat => (p : Int)) ∧ st = (pfi ll, (prd ll : Int)) ∧ Gd ll ∧ prd ll ≤ 1000000 ∧ en ps (prd ll) (sgl ll) = true ∧ (∀ y ∈ ll, ∀ q ∈ ps, y.1 < q) ∧ ps.Pairwise (· < ·) ∧ (∀ q ∈ ps, Pr q ∧ q ≤ 1000000) ∧ Pot s1 (b + 3 * ps.length)) ?_ _ _ _ ⟨psL, [], rfl, rfl, ⟨List.Pairwise.nil, fun _ h => (nomatch h)⟩, by decide, en_all, fun _ h => (nomatch h), by decide, fun q hq => ?_, h.le (by show b + 3 * 19 ≤ _; omega)⟩).mono ?_
  · rintro x xs st s1 ⟨ps, ll, e1, rfl, hg, hb, he, hlt, hs, hpr, hp⟩
    cases ps with
    | nil => cases e1
    | cons p ps =>
      obtain ⟨rfl, rfl⟩ := List.cons.inj e1
      have hpp := hpr p (List.mem_cons_self ..)
      have hs' := List.pairwise_cons.mp hs
      have hpos := prd_pos hg.ok2
      have hskip := en_skip he hs'.1
      have stay : ∀ s2, Pot s2 (b + 3 * ps.length) → ∃ (ps' : List Nat) (ll' : List (Nat × Nat)), ps.map (fun p : Nat => (p : Int)) = ps'.map (fun p : Nat => (p : Int)) ∧ (pfi ll, (prd ll : Int)) = (pfi ll', (prd ll' : Int)) ∧ Gd ll' ∧ prd ll' ≤ 1000000 ∧ en ps' (prd ll') (sgl ll') = true ∧ (∀ y ∈ ll', ∀ q ∈ ps', y.1 < q) ∧ ps'.Pairwise (· < ·) ∧ (∀ q ∈ ps', Pr q ∧ q ≤ 1000000) ∧ Pot s2 (b + 3 * ps'.length) := fun s2 q =>
        ⟨ps, ll, rfl, rfl, hg, hb, hskip, fun y hy q hq => hlt y hy q (List.mem_cons_of_mem _ hq), hs'.2, fun q hq => hpr q (List.mem_cons_of_mem _ hq), q⟩
      rw [List.length_cons] at hp
      refine (of_ok (b := b + 3 * ps.length + 2) (hp.le (by omega)) (by decide) (by decide +kernel)).then fun r s2 ⟨h1, h2, hp2⟩ => ?_
      refine Tt.then (P' := fun (_ : Bool) s3 => Pot s3 (b + 3 * ps.length + 1)) ?_ ?_
      · by_cases z : r = 0
        · exact Tt.pos (decide_eq_true z) (tt_pure.mpr (hp2.le (by omega)))
        · refine Tt.neg (by rw [decide_eq_false z]; decide) (Tt.then (P' := fun (_ : Bool) s3 => Pot s3 (b + 3 * ps.length + 1)) ?_ fun c s3 q => tt_pure.mpr q)
          by_cases y : (p : Int) < 6
          · exact Tt.pos (decide_eq_true y) ((of_ok (b := b + 3 * ps.length + 1) hp2 (by decide) (by decide +kernel)).then fun r2 s3 ⟨_, _, q⟩ => tt_pure.mpr q)
          · exact Tt.neg (by rw [decide_eq_false y]; decide) (tt_pure.mpr (hp2.le (by omega)))
      · intro c s3 hp3
        cases c with
        | false => exact Tt.neg (by decide) (tt_pure.mpr (stay s3 (hp3.le (by omega))))
        | true =>
          have hm : ((1 : Int) + (if (decide ((p : Int) < (6 : Int))) = true then (6 : Int) else (1 : Int))) = ((mfu p : Nat) : Int) := by
            unfold mfu
            by_cases y : p < 6
            · rw [if_pos y, if_pos (decide_eq_true (by omega))]; rfl
            · rw [if_neg y, if_neg (by rw [decide_eq_false (by omega)]; decide)]; rfl
          have hmf : 1 ≤ mfu p ∧ mfu p ≤ 7 := by unfold mfu; split <;> omega
          refine Tt.pos rfl (tt_bnd.mpr ?_)
          rw [hm]
          refine (of_ok (b := b + 3 * ps.length) hp3 (by omega) (Int.lt_of_le_of_lt (b := 7) (by omega) (by decide +kernel))).then fun r2 s4 ⟨g1, g2, hp4⟩ => ?_
          obtain ⟨mo, hmo⟩ : ∃ mo : Nat, (1 : Int) + r2 = mo := ⟨(1 + r2).toNat, by omega⟩
          rw [hmo]
          refine tt_bnd.mpr (Tt.then (P' := fun (st : Int × Int) s5 => s5 = s4 ∧ ∃ e : Nat, st = (((prd ll * p ^ e : Nat) : Int), (e : Int)) ∧ e ≤ mo ∧ prd ll * p ^ e ≤ 1000000) ?_ ?_)
          · refine Tt.wh (I := fun (st : Int × Int) s5 => s5 = s4 ∧ ∃ e : Nat, st = (((prd ll * p ^ e : Nat) : Int), (e : Int)) ∧ e ≤ mo ∧ prd ll * p ^ e ≤ 1000000) (nu := fun st => mo - st.2.toNat) ?_ many _ _ ⟨rfl, 0, by rw [Nat.pow_zero, Nat.mul_one]; rfl, by omega, by rw [Nat.pow_zero, Nat.mul_one]; exact hb⟩ (lt_many (by simp; omega))
            rintro st s5 k P ⟨rfl, e, rfl, he1, he2⟩ hk
            have hpk := hpp.2
            have sm1 : Sm ((prd ll * p ^ e : Nat) : Int) := sm_nat (by omega)
            have sm2 : Sm (p : Int) := sm_nat (by omega)
            refine Tt.then (P' := fun c s6 => c = (decide (e < mo) && decide (prd ll * p ^ e * p ≤ 1000000)) ∧ s6 = s5) ?_ ?_
            · by_cases y : e < mo
              · rw [decide_eq_true y]
                refine Tt.pos (decide_eq_true (show (e : Int) < (mo : Int) by omega)) (tt_grd.mpr ⟨⟨sm1, sm2⟩, tt_pure.mpr ⟨?_, rfl⟩⟩)
                show decide (((prd ll * p ^ e : Nat) : Int) * (p : Int) ≤ 1000000) = _
                rw [Bool.true_and, ← Int.natCast_mul]
                exact decide_eq_decide.mpr (by omega)
              · rw [decide_eq_false y]
                exact Tt.neg (by show ¬ decide ((e : Int) < (mo : Int)) = true; rw [decide_eq_false (by omega)]; decide) (tt_pure.mpr ⟨rfl, rfl⟩)
            · rintro c s6 ⟨rfl, rfl⟩
              refine hk _ _ (fun ht => ?_) (fun ht => ⟨rfl, e, rfl, he1, he2⟩)
              rw [Bool.and_eq_true, decide_eq_true_iff, decide_eq_true_iff] at ht
              refine tt_bnd.mpr (tt_grd.mpr ⟨⟨sm1, sm2⟩, tt_bnd.mpr (tt_pure.mpr ⟨⟨rfl, e + 1, ?_, by omega, ?_⟩, ?_⟩)⟩)
              · show (((prd ll * p ^ e : Nat) : Int) * (p : Int), (e : Int) + 1) = _
                rw [← Int.natCast_mul, Nat.pow_succ, Nat.mul_assoc]; rfl
              · rw [Nat.pow_succ, ← Nat.mul_assoc]; exact ht.2
              · show mo - ((e : Int) + 1).toNat < mo - (e : Int).toNat
                omega
          · rintro st s5 ⟨rfl, e, rfl, he1, he2⟩
            have hlen : (pfi ll).length ≤ 100 := by
              have := (PFmk hg).len (by omega)
              have : ll.length < 20 := (Nat.pow_lt_pow_iff_right (by decide : 1 < 2)).mp (by omega)
              rw [pfi_len]; omega
            by_cases z : e = 0
            · subst z
              refine Tt.then (P' := fun c s6 => c = [] ∧ s6 = s5) (Tt.neg (show ¬ decide ((0 : Int) < ((0 : Nat) : Int)) = true by decide) (tt_grd.mpr ⟨by simp, tt_pure.mpr ⟨rfl, rfl⟩⟩)) ?_
              rintro c s6 ⟨rfl, rfl⟩
              refine tt_grd.mpr ⟨by show (pfi ll).length + 0 ≤ _; omega, tt_bnd.mpr (tt_pure.mpr ?_)⟩
              show ∃ _, _
              rw [List.append_nil, Nat.pow_zero, Nat.mul_one]
              exact stay _ hp4
            · refine Tt.then (P' := fun c s6 => c = [((p : Int), (e : Int))] ∧ s6 = s5) (Tt.pos (decide_eq_true (show (0 : Int) < (e : Int) by omega)) (tt_grd.mpr ⟨by simp, tt_pure.mpr ⟨rfl, rfl⟩⟩)) ?_
              rintro c s6 ⟨rfl, rfl⟩
              have ep : prd (ll ++ [(p, e)]) = prd ll * p ^ e := by rw [prd_app]; show _ * (p ^ e * 1) = _; rw [Nat.mul_one]
              have es : sgl (ll ++ [(p, e)]) = sgl ll * gs p e := by rw [sgl_app]; show _ * (gs p e * 1) = _; rw [Nat.mul_one]
              refine tt_grd.mpr ⟨by show (pfi ll).length + 1 ≤ _; omega, tt_bnd.mpr (tt_pure.mpr ⟨ps, ll ++ [(p, e)], rfl, ?_, ⟨List.pairwise_append.mpr ⟨hg.s, List.pairwise_singleton .., fun a ha b' hb' => ?_⟩, fun y hy => ?_⟩, by rw [ep]; exact he2, ?_, fun y hy q hq => ?_, hs'.2, fun q hq => hpr q (List.mem_cons_of_mem _ hq), hp4⟩)⟩
              · rw [ep, pfi_app]; rfl
              · rw [List.mem_singleton.mp hb']; exact hlt a ha p (List.mem_cons_self ..)
              · rcases List.mem_append.mp hy with q | q
                · exact hg.p y q
                · rw [List.mem_singleton.mp q]; exact ⟨hpp.1, by show 1 ≤ e; omega⟩
              · rw [ep, es]
                exact en_take he hpp.1.pos (by omega) (by omega) he2
              · rcases List.mem_append.mp hy with q' | q'
                · exact hlt y q' q (List.mem_cons_of_mem _ hq)
                · rw [List.mem_singleton.mp q']; exact hs'.1 q hq
  · have h1 := List.all_eq_true.mp prB_psL q hq
    have h2 : ∀ q ∈ psL, 0 < q ∧ q ≤ 1000000 := by decide
    have h3 := h2 q hq
    exact ⟨(prB_iff h3.1 (by omega)).mp h1, h3.2⟩
  · rintro st s1 ⟨ps, ll, e1, rfl, hg, hb, he, _, _, _, hp⟩
    have : ps = [] := by cases ps with
      | nil => rfl
      | cons _ _ => cases e1
    subst this
    exact ⟨ll, rfl, hg, hb, he, hp.le (by omega)⟩
theorem small_ok {s : PotT} {b : Nat} (h : Pot s (b + 70)) : Tt s m__law_small fun t s1 => ∃ n : Nat, t.1 = (n : Int) ∧ InS n ∧ Pot s1 b := by
  unfold m__law_small
  refine tt_grd.mpr ⟨by simp, (one_ok (b := b + 69) h (by simp) (by simp)).then fun r s1 ⟨hr, hp1⟩ => ?_⟩
  have hr : r = 12 ∨ r = 100 ∨ r = 1000 ∨ r = 10000 := by simpa using hr
  refine (of_ok (b := b + 68) hp1 (by omega) (Int.lt_of_le_of_lt (b := 10000) (by omega) (by decide +kernel))).then fun r2 s2 ⟨h1, h2, hp2⟩ => ?_
  obtain ⟨n, hn⟩ : ∃ n : Nat, (1 : Int) + r2 = n := ⟨(1 + r2).toNat, by omega⟩
  rw [hn]
  refine tt_bnd.mpr ((of_ok (b := b + 67) hp2 (by decide) (by decide +kernel)).then fun r3 s3 ⟨_, _, hp3⟩ => ?_)
  by_cases z : r3 = 0
  · refine Tt.pos (decide_eq_true z) (tt_grd.mpr ⟨by decide, ?_⟩)
    rw [show (10 : Int) ^ Int.toNat (6 : Int) = 1000000 by decide]
    refine (parting_of_ok (b := b) (hp3.le (by omega))).then fun l s4 ⟨ll, e, hg, hb, hl, hp4⟩ => ?_
    subst e
    refine tt_bnd.mpr ((tt_lft (told_ok hg hb)).mpr (tt_bnd.mpr (tt_pure.mpr ⟨prd ll, rfl, InS.of (prd_pos hg.ok2) hb ?_, hp4⟩)))
    unfold sg
    rw [pf_of hg (by omega)]
    exact hl
  · refine Tt.neg (by rw [decide_eq_false z]; decide) ((tt_lft (law_primes_ok (n := n) (by omega) (by omega))).mpr (tt_bnd.mpr (tt_pure.mpr ⟨n, rfl, InS.of (by omega) (by omega) (lf_all (by omega) (by omega)), hp3.le (by omega)⟩)))
end Wk
set_option Elab.async false
set_option maxRecDepth 1000000
set_option maxHeartbeats 4000000
set_option linter.all false
/-! A87i: the law, whole -/
namespace Wk
open PySem L2
open PyProof.Rows hiding St
theorem Tt.bd {μ : Type → Type} {τ : Type} [Mir μ τ] {α β : Type} {s : τ} {P : β → τ → Prop} {a a' : α} {k : α → μ β} (e : a = a') (h : Tt s (k a') P) : Tt s (bnd a k) P := by
  subst e; exact h
/-! known ones -/
noncomputable def kpC (p q : Nat) : Bool := decide (m_even_perfect p = some (q : Int)) && decide (m_perfect_exponent q = some (some (p : Int))) && decide (m_is_perfect q = some true) && decide (m_share_of q = some ((2 : Int), (1 : Int))) && Nat.beq q (2 ^ (p - 1) * (2 ^ p - 1))
theorem kp2 : kpC 2 6 = true := by decide +kernel
theorem kp3 : kpC 3 28 = true := by decide +kernel
theorem kp5 : kpC 5 496 = true := by decide +kernel
theorem kp7 : kpC 7 8128 = true := by decide +kernel
theorem kp13 : kpC 13 33550336 = true := by decide +kernel
theorem kp17 : kpC 17 8589869056 = true := by decide +kernel
theorem kp19 : kpC 19 137438691328 = true := by decide +kernel
theorem kind6 : m_kind_of 6 = some ("whole" : Str) := by decide +kernel
def frL : List (Int × Int) := [((6 : Int), (28 : Int)), ((30 : Int), (140 : Int)), ((80 : Int), (200 : Int)), ((6 : Int), (8128 : Int)), ((12 : Int), (234 : Int)), ((6 : Int), (6 : Int)), ((10 : Int), (14 : Int)), ((40 : Int), (224 : Int))]
noncomputable def frC (y : Int × Int) : Bool := match m_share_of y.1, m_share_of y.2 with
  | some a, some b => decide (m_are_friends y.1 y.2 = some (!decide (y.1 = y.2) && decide (a = b)))
  | _, _ => false
theorem fr_all : frL.all frC = true := by decide +kernel
theorem known_ok {s : PotT} {b : Nat} (h : Pot s (b + 2)) : Tt s m__law_are_known_right fun a _ => a = true := by
  unfold m__law_are_known_right
  refine tt_grd.mpr ⟨by simp, (one_ok (b := b + 1) h (by simp) (by simp)).then fun p' s1 ⟨hp, hp1⟩ => ?_⟩
  obtain ⟨p, q, rfl, hC, hp1', hp19⟩ : ∃ p q : Nat, p' = (p : Int) ∧ kpC p q = true ∧ 1 ≤ p ∧ p ≤ 19 := by
    have hp : p' = 2 ∨ p' = 3 ∨ p' = 5 ∨ p' = 7 ∨ p' = 13 ∨ p' = 17 ∨ p' = 19 := by simpa using hp
    rcases hp with rfl | rfl | rfl | rfl | rfl | rfl | rfl
    · exact ⟨2, 6, rfl, kp2, by decide, by decide⟩
    · exact ⟨3, 28, rfl, kp3, by decide, by decide⟩
    · exact ⟨5, 496, rfl, kp5, by decide, by decide⟩
    · exact ⟨7, 8128, rfl, kp7, by decide, by decide⟩
    · exact ⟨13, 33550336, rfl, kp13, by decide, by decide⟩
    · exact ⟨17, 8589869056, rfl, kp17, by decide, by decide⟩
    · exact ⟨19, 137438691328, rfl, kp19, by decide, by decide⟩
  unfold kpC at hC
  rw [Bool.and_eq_true, Bool.and_eq_true, Bool.and_eq_true, Bool.and_eq_true, decide_eq_true_iff, decide_eq_true_iff, decide_eq_true_iff, decide_eq_true_iff, Nat.beq_eq] at hC
  obtain ⟨⟨⟨⟨c1, c2⟩, c3⟩, c4⟩, c5⟩ := hC
  have t1 : (1 : Int) * 2 ^ Int.toNat ((p : Int) - (1 : Int)) = ((2 ^ (p - 1) : Nat) : Int) := by
    rw [show (p : Int) - 1 = ((p - 1 : Nat) : Int) by omega, Int.toNat_natCast, Int.one_mul]; push_cast; rfl
  have hpw : 1 ≤ 2 ^ p := Nat.pow_pos (by decide)
  have t2 : (1 : Int) * 2 ^ Int.toNat (p : Int) - 1 = ((2 ^ p - 1 : Nat) : Int) := by
    rw [Int.toNat_natCast, Int.one_mul]
    have : (2 : Int) ^ p = ((2 ^ p : Nat) : Int) := by push_cast; rfl
    rw [this]; omega
  have b1 : 2 ^ p ≤ 2 ^ 19 := Nat.pow_le_pow_right (by decide) hp19
  have b2 : 2 ^ (p - 1) ≤ 2 ^ 19 := Nat.pow_le_pow_right (by decide) (by omega)
  have s1' : Sm (1 : Int) := sm_small (by decide)
  refine tt_bnd.mpr ((tt_lft c1).mpr (tt_bnd.mpr (tt_grd.mpr ⟨⟨s1', by omega, by omega⟩, tt_grd.mpr ⟨⟨s1', by omega, by omega⟩, tt_grd.mpr ⟨⟨by rw [t1]; exact sm_nat (by omega), by rw [t2]; exact sm_nat (by omega)⟩, ?_⟩⟩⟩)))
  rw [t1, t2, ← Int.natCast_mul, ← c5]
  refine Tt.then (P' := fun c s2 => c = false ∧ s2 = s1) (Tt.neg (by rw [decide_eq_true rfl]; decide) ((tt_lft c2).mpr (Tt.then (P' := fun c s2 => c = false ∧ s2 = s1) (Tt.neg (by rw [decide_eq_true rfl]; decide) ((tt_lft kind6).mpr (tt_pure.mpr ⟨by decide, rfl⟩))) fun c s2 e => tt_pure.mpr e))) ?_
  rintro c s2 ⟨rfl, rfl⟩
  refine Tt.neg (by decide) ((tt_lft c3).mpr (Tt.then (P' := fun c s3 => c = false ∧ s3 = s2) (Tt.neg (by decide) ((tt_lft c4).mpr (tt_pure.mpr ⟨by decide, rfl⟩))) ?_))
  rintro c s3 ⟨rfl, rfl⟩
  refine Tt.neg (by decide) (tt_grd.mpr ⟨by simp, ?_⟩)
  refine Tt.then (P' := fun y s4 => y ∈ frL) ?_ ?_
  · unfold m__law_one_b
    refine (of_ok (b := b) hp1 (by decide) (by decide +kernel)).then fun r s4 ⟨h1, h2, _⟩ => ?_
    have hr : ∃ y, L2.atI frL r = some y ∧ y ∈ frL := by
      have h2 : r < 8 := h2
      obtain ⟨i, rfl⟩ : ∃ i : Nat, r = i := ⟨r.toNat, by omega⟩
      have hi : i < frL.length := by show i < 8; omega
      exact ⟨frL[i], by rw [atI_nat hi]; exact List.getElem?_eq_getElem hi, List.getElem_mem hi⟩
    obtain ⟨y, e, hy⟩ := hr
    exact (tt_lft (o := L2.atI frL r) e).mpr (tt_bnd.mpr (tt_pure.mpr hy))
  · intro y s4 hy
    have hf := List.all_eq_true.mp fr_all y hy
    unfold frC at hf
    cases ha : m_share_of y.1 with
    | none => rw [ha] at hf; cases hf
    | some a =>
      cases hb : m_share_of y.2 with
      | none => rw [ha, hb] at hf; cases hf
      | some b =>
        rw [ha, hb] at hf
        have hf : m_are_friends y.1 y.2 = some (!decide (y.1 = y.2) && decide (a = b)) := of_decide_eq_true hf
        refine tt_bnd.mpr (Tt.then (P' := fun c s5 => c = (!decide (y.1 = y.2) && decide (a = b))) ?_ fun c s5 e => ?_)
        · cases decide (y.1 = y.2) with
          | true => exact Tt.neg (by decide) (tt_pure.mpr rfl)
          | false => exact Tt.pos rfl ((tt_lft ha).mpr ((tt_lft hb).mpr (tt_pure.mpr rfl)))
        · subst e
          generalize (!decide (y.1 = y.2) && decide (a = b)) = F at *
          have hO : OkD (.list [.bool F, .bool F]) := (shp_list (n := 2) (by simp) (.lc shp_bool (.l1 shp_bool))).ok (by decide) (by decide)
          exact tt_bnd.mpr ((tt_lft hf).mpr ((tt_lft hf).mpr (tt_grd.mpr ⟨by simp, tt_bnd.mpr (tt_grd.mpr ⟨hO, tt_grd.mpr ⟨by simp, tt_bnd.mpr (tt_grd.mpr ⟨hO, tt_grP.mpr ⟨rfl, tt_bnd.mpr (tt_pure.mpr rfl)⟩⟩)⟩⟩)⟩)))
end Wk
set_option Elab.async false
set_option maxRecDepth 1000000
set_option maxHeartbeats 4000000
set_option linter.all false
/-! A87j: the law, whole -/
namespace Wk
open PySem L2
open PyProof.Rows hiding St
theorem shp_knd (e : Int) : Shp 1 200 (.str (knd e)) := by
  unfold knd
  split
  · exact ⟨by decide +kernel, by decide +kernel⟩
  · split
    · exact ⟨by decide +kernel, by decide +kernel⟩
    · exact ⟨by decide +kernel, by decide +kernel⟩
theorem fm_filter {l : List Int} {p : Int → Bool} : l.filterMap (fun x => if p x = true then some x else none) = l.filter p := by
  induction l with
  | nil => rfl
  | cons a l ih =>
    rw [List.filterMap_cons, List.filter_cons]
    by_cases h : p a = true
    · rw [if_pos h, if_pos h, ih]
    · rw [if_neg h, if_neg h, ih]
theorem atI_zero {l : List Int} (h : l ≠ []) : ∃ x, L2.atI l (0 : Int) = some x ∧ l[0]? = some x := by
  cases l with
  | nil => exact absurd rfl h
  | cons a r =>
    refine ⟨a, ?_, rfl⟩
    have := atI_nat (xs := a :: r) (i := 0) (by simp)
    exact this
theorem law_ok {s : PotT} (h : Pot s 2000) : Tt s m_law fun a _ => a = true := by
  unfold m_law
  refine tt_grd.mpr ⟨by simp, tt_bnd.mpr (tt_grd.mpr ⟨by decide, ?_⟩)⟩
  refine Tt.then (P' := fun o s1 => o = Ctl.go () ∧ Pot s1 10) ?_ ?_
  · refine Tt.rgC (I := fun (x : Int) (st : Unit) s1 => 0 ≤ x ∧ Pot s1 (2000 - 400 * x.toNat)) ?_ ?_ 3 0 _ _ (by decide) ⟨by decide, h⟩
    · rintro x st s1 hx ⟨hx0, hp⟩
      obtain ⟨c, hc⟩ : ∃ c, 2000 - 400 * x.toNat = c + 400 := ⟨2000 - 400 * x.toNat - 400, by omega⟩
      rw [hc] at hp
      have hfin : ∀ s2, Pot s2 c → 0 ≤ x + 1 ∧ Pot s2 (2000 - 400 * (x + 1).toNat) := fun s2 q => ⟨by omega, q.le (by omega)⟩
      refine (small_ok (b := c + 3) (hp.le (by omega))).then fun t s2 ⟨n1, ht, hI1, hp2⟩ => tt_bnd.mpr ?_
      refine (one_ok (b := c + 2) hp2 (by simp) (by simp)).then fun kn s3 ⟨hkn, hp3⟩ => tt_grd.mpr ⟨by simp, (one_ok (b := c + 1) hp3 (by simp) (by simp)).then fun n' s4 ⟨hn', hp4⟩ => ?_⟩
      have hN : ∃ n : Nat, n' = n ∧ InS n := by
        have hk2 : ∀ y ∈ ([(6 : Int), (28 : Int), (496 : Int), (8128 : Int), (33550336 : Int), (120 : Int), (672 : Int), (523776 : Int), (30240 : Int), (32760 : Int)] : List Int), ((y.toNat : Nat) : Int) = y ∧ y.toNat ∈ knL := by decide
        simp only [List.mem_cons, List.not_mem_nil, or_false] at hn'
        rcases hn' with e | e | e | e
        · exact ⟨n1, by rw [e, ht], hI1⟩
        · exact ⟨n1, by rw [e, ht], hI1⟩
        · exact ⟨n1, by rw [e, ht], hI1⟩
        · exact ⟨kn.toNat, by rw [e, (hk2 kn hkn).1], kn_get (hk2 kn hkn).2⟩
      obtain ⟨n, rfl, hI⟩ := hN
      clear hn' hkn ht hI1
      have hfin4 := hfin s4 (hp4.le (by omega))
      have hB := hI.b
      have hb := hB.b
      have hn0 := hB.p
      have hge := sg_ge hn0 (by omega : n < 2 ^ 64)
      have hle := sg_le hn0 (by omega : n < 2 ^ 64)
      have hnn : n * n ≤ 4 * 10 ^ 7 * (4 * 10 ^ 7) := Nat.mul_le_mul hb hb
      have hsm : Sm (n : Int) := sm_nat (by omega)
      have elp := law_primes_ok hn0 (by omega : n < 2 ^ 64)
      have els := law_sum_ok hn0 hb
      have elm := law_made_ok (a := sg n) (b := n) (by omega) hn0 (by omega)
      have eks := kind_of_ok hB hI.d
      have eex := excess_of_ok hB hI.d
      have esh := share_of_ok hB
      have eof := often_as_much_ok hB
      have epf : m_is_perfect n = some (decide ((sg n : Int) - 2 * (n : Int) = 0)) := by
        rw [is_perfect_ok hB]; congr 1; exact decide_eq_decide.mpr (by omega)
      have eds := divisor_sum_ok hB
      have eps := prime_shares_ok hB
      have ese : m_is_seen_alone n = some (decide (((Nat.gcd n (sg n) : Nat) : Int) = 1)) := by rw [seen_ok hB, Nat.gcd_comm]
      have elc := law_common_ok (a := n) (b := sg n) (by omega)
      have edv := law_divisors_ok hn0 hb hI.d
      have efd := first_divisor_ok hB hI.d
      have ef1 := is_first_ok hB hI.d
      have ere := reach_of_ok hB
      have hro := rch_pos hB
      obtain ⟨ob, eob, hob⟩ := odd_bar_ok hB
      have hexb : ((sg n : Int) - 2 * (n : Int)).natAbs < 10 ^ 40 := by omega
      refine tt_bnd.mpr ((tt_lft elp).mpr (tt_bnd.mpr ((tt_lft els).mpr (tt_bnd.mpr ((tt_lft elm).mpr (tt_bnd.mpr (tt_grd.mpr ⟨⟨sm_small (by decide), hsm⟩, ?_⟩)))))))
      have hex0 : sg n = 2 * n ↔ (sg n : Int) - 2 * (n : Int) = 0 := by omega
      generalize hex : (sg n : Int) - 2 * (n : Int) = ex at *
      refine tt_bnd.mpr (Tt.bd (a' := knd ex) ?_ (tt_bnd.mpr ?_))
      · unfold knd
        by_cases z : ex = 0
        · rw [if_pos z, z]; rfl
        · rw [if_neg z]
          by_cases y : 0 < ex
          · rw [if_pos y, if_pos (decide_eq_true y)]
          · rw [if_neg y, if_neg (by rw [decide_eq_false y]; decide), if_pos (decide_eq_true (by omega))]
      generalize hoft : (if decide ((red (sg n) n).2 = (1 : Int)) = true then some (red (sg n) n).1 else none) = oft at *
      refine (tt_lft eks).mpr ((tt_lft eex).mpr ((tt_lft esh).mpr ((tt_lft eof).mpr ((tt_lft epf).mpr (tt_bnd.mpr ((tt_lft eks).mpr ((tt_lft eex).mpr ((tt_lft esh).mpr (tt_bnd.mpr ((tt_lft eof).mpr ((tt_lft epf).mpr (tt_bnd.mpr ?_))))))))))))
      have hd1 := Nat.div_le_self (sg n) (Nat.gcd (sg n) n)
      have hd2 := Nat.div_le_self n (Nat.gcd (sg n) n)
      have sA : Shp 0 50 (.int (red (sg n) n).1) := shp_int (by show (((sg n / Nat.gcd (sg n) n : Nat) : Int)).natAbs < _; rw [Int.natAbs_natCast]; omega)
      have sB : Shp 0 50 (.int (red (sg n) n).2) := shp_int (by show (((n / Nat.gcd (sg n) n : Nat) : Int)).natAbs < _; rw [Int.natAbs_natCast]; omega)
      have sO : Shp 0 50 (dO PyData.int oft) := by
        rw [← hoft]
        split
        · exact sA
        · exact shp_none
      have sT : Shp 1 (2 * (50 + 2) + 3) (.tuple [.int (red (sg n) n).1, .int (red (sg n) n).2]) := shp_tup (n := 2) (by simp) (.lc sA (.l1 sB))
      have sL : Shp 2 (5 * (200 + 2) + 3) (.list [.str (knd ex), .int ex, .tuple [.int (red (sg n) n).1, .int (red (sg n) n).2], dO PyData.int oft, .bool (decide (ex = 0))]) :=
        shp_list (n := 5) (by simp) (.lc (shp_knd ex) (.lc ((shp_int hexb).le (by decide) (by decide)) (.lc (sT.le (by decide) (by decide)) (.lc (sO.le (by decide) (by decide)) (.l1 (shp_bool.le (by decide) (by decide)))))))
      have oL : OkD (.list [.list [.str (knd ex), .int ex, .tuple [.int (red (sg n) n).1, .int (red (sg n) n).2], dO PyData.int oft, .bool (decide (ex = 0))], .list [.str (knd ex), .int ex, .tuple [.int (red (sg n) n).1, .int (red (sg n) n).2], dO PyData.int oft, .bool (decide (ex = 0))]]) :=
        (shp_list (n := 2) (by simp) (.lc sL (.l1 sL))).ok (by decide) (by decide)
      refine tt_grd.mpr ⟨by simp, tt_bnd.mpr (tt_grd.mpr ⟨oL, tt_grd.mpr ⟨by simp, tt_grd.mpr ⟨⟨by decide, by decide, by simp⟩, tt_bnd.mpr (tt_grd.mpr ⟨oL, tt_grP.mpr ⟨rfl, Tt.neg (by decide) ?_⟩⟩)⟩⟩⟩)⟩
      clear oL sL sT
      refine (tt_lft eds).mpr (Tt.neg (by rw [decide_eq_true rfl]; decide) ((tt_lft eps).mpr (tt_bnd.mpr (tt_bnd.mpr (tt_bnd.mpr ((parts_loop (s := s4) hB (P := fun st s5 => s5 = s4 ∧ ∃ x y : Nat, 0 < x ∧ 0 < y ∧ y < 10 ^ 40 ∧ x * n = sg n * y ∧ st = ((x : Int), (y : Int))) fun x y h1 h2 h3 h4 => ⟨rfl, x, y, h1, h2, h3, h4, rfl⟩).then ?_))))))
      rintro st5 s5 ⟨rfl, px, py, hpx, hpy, hpy2, hxy, rfl⟩
      have emp := law_made_ok (a := px) (b := py) hpx hpy hpy2
      rw [red_eq hpx hpy (by omega) hn0 hxy] at emp
      refine Tt.then (P' := fun c s6 => c = false ∧ s6 = s5) (Tt.neg ?_ ((tt_lft emp).mpr (tt_pure.mpr ⟨by rw [decide_eq_true rfl]; rfl, rfl⟩))) ?_
      · rw [List.length_map, pfi_len, decide_eq_true rfl]; decide
      rintro c6 s6 ⟨rfl, rfl⟩
      have oB : ∀ b : Bool, OkD (.bool b) := fun b => shp_bool.ok (by decide) (by decide)
      refine Tt.neg (by decide) ((tt_lft ese).mpr (tt_bnd.mpr (tt_grd.mpr ⟨oB _, (tt_lft elc).mpr (tt_bnd.mpr (tt_grd.mpr ⟨oB _, tt_grP.mpr ⟨rfl, Tt.neg (by decide) ?_⟩⟩))⟩)))
      have hlen : (dvs n).length ≤ 10 ^ 7 := by
        unfold dvs
        rw [(srt_perm _).length_eq, List.length_map, (Fi.all (pf_gd hn0 (by omega))).l]
        exact hI.d
      refine (tt_lft edv).mpr (tt_bnd.mpr (tt_grd.mpr ⟨by omega, tt_filterMap (g := fun x : Int => if rich x = true then some x else none) (fun d hd s7 Q hQ => ?_) (Tt.bd (a' := (dvs n).filter rich) fm_filter ?_)⟩))
      · have hm := dvs_mem hn0 hb hd
        obtain ⟨m, rfl⟩ : ∃ m : Nat, d = m := ⟨d.toNat, by omega⟩
        refine (tt_lft (law_primes_ok (n := m) (by omega) (by omega))).mpr ((tt_lft (law_sum_ok (n := m) (by omega) (by omega))).mpr (tt_grd.mpr ⟨⟨sm_small (by decide), sm_nat (by omega)⟩, ?_⟩))
        have er : rich (m : Int) = decide ((2 : Int) * (m : Int) ≤ (sg m : Int)) := by unfold rich sgz; rw [Int.toNat_natCast]
        rw [er] at hQ
        by_cases z : (2 : Int) * (m : Int) ≤ (sg m : Int)
        · rw [if_pos (decide_eq_true z)] at hQ
          exact Tt.pos (decide_eq_true z) (tt_pure.mpr hQ)
        · rw [if_neg (by rw [decide_eq_false z]; decide)] at hQ
          exact Tt.neg (by rw [decide_eq_false z]; decide) (tt_pure.mpr hQ)
      refine tt_grd.mpr ⟨by simp, Tt.then (P' := fun c s7 => c = (dvs n).find? rich ∧ s7 = s6) ?_ ?_⟩
      · rw [find_head]
        by_cases z : (dvs n).filter rich = []
        · rw [if_pos z]
          exact Tt.neg (by rw [decide_eq_true z]; decide) (tt_pure.mpr ⟨rfl, rfl⟩)
        · rw [if_neg z]
          obtain ⟨d, e1, e2⟩ := atI_zero z
          exact Tt.pos (by rw [decide_eq_false z]; rfl) ((tt_lft e1).mpr (tt_pure.mpr ⟨e2.symm, rfl⟩))
      rintro c7 s7 ⟨rfl, rfl⟩
      have sF : Shp 0 50 (dO PyData.int ((dvs n).find? rich)) := by
        cases hf : (dvs n).find? rich with
        | none => exact shp_none
        | some d =>
          have hm := dvs_mem hn0 hb (List.mem_of_find?_eq_some hf)
          exact shp_int (by omega)
      have oF : OkD (.list [dO PyData.int ((dvs n).find? rich), dO PyData.int ((dvs n).find? rich)]) := (shp_list (n := 2) (by simp) (.lc sF (.l1 sF))).ok (by decide) (by decide)
      refine tt_bnd.mpr ((tt_lft efd).mpr ((tt_lft efd).mpr (tt_grd.mpr ⟨by simp, tt_bnd.mpr (tt_grd.mpr ⟨oF, tt_grd.mpr ⟨by simp, tt_bnd.mpr (tt_grd.mpr ⟨oF, tt_grP.mpr ⟨rfl, Tt.neg (by decide) ?_⟩⟩)⟩⟩)⟩)))
      clear oF sF
      refine (tt_lft ef1).mpr (tt_bnd.mpr (tt_grd.mpr ⟨oB _, tt_grd.mpr ⟨by simp, tt_bnd.mpr (tt_grd.mpr ⟨oB _, tt_grP.mpr ⟨rfl, Tt.neg (by decide) ?_⟩⟩)⟩⟩))
      have tail : Tt s7 (Mir.lft (grd (0 < (2 : Int))) >>= fun _ => if (decide (((n : Int) % (2 : Int)) = (1 : Int))) = true then
          (bnd (1 : Int) fun above617 =>
          bnd (1 : Int) fun below627 =>
          (lpS (pfi (pf n)) (fun (x644 : (Int × Int)) (st642 : Int × Int) =>
          Mir.lft (grd (Sm st642.1 ∧ Sm x644.1)) >>= fun _ => bnd (st642.1 * x644.1) fun above686 =>
          Mir.lft (grd (Sm st642.2 ∧ Sm (x644.1 - (1 : Int)))) >>= fun _ => bnd (st642.2 * (x644.1 - (1 : Int))) fun below696 =>
          pure (above686, below696)) (above617, below627)) >>= fun (st642 : Int × Int) =>
          Mir.lft (m__law_made st642.1 st642.2) >>= fun r778 => bnd r778 fun reach715 =>
          Mir.lft (m_reach_of (n : Int)) >>= fun r775 => (if (!decide (r775 = reach715)) = true then pure true else Mir.lft (m_odd_bar (n : Int)) >>= fun r777 => (if (Option.isNone r777) = true then Mir.lft (grd (Sm (2 : Int) ∧ Sm (reach715.2))) >>= fun _ => pure (decide ((reach715.1) ≤ ((2 : Int) * (reach715.2)))) else pure false) >>= fun b776 => pure b776) >>= fun b774 => if b774 = true then
          (bnd false fun r739 => pure (Ctl.ret r739))
          else
          ((if (decide ((2 : Int) < (n : Int))) = true then Mir.lft (grd (Sm (sg n : Int) ∧ Sm (reach715.2))) >>= fun _ => Mir.lft (grd (Sm (n : Int) ∧ Sm (reach715.1))) >>= fun _ => pure (decide (((n : Int) * (reach715.1)) ≤ ((sg n : Int) * (reach715.2)))) else pure false) >>= fun b773 => if b773 = true then
          (bnd false fun r763 => pure (Ctl.ret r763))
          else
          (pure (Ctl.go ()))))
          else
          (pure (Ctl.go ())) : PM PotT (Ctl Bool Unit)) fun o s8 => o = Ctl.go () ∧ s8 = s7 := by
        refine tt_grd.mpr ⟨by decide, ?_⟩
        by_cases z : (n : Int) % 2 = 1
        · refine Tt.pos (decide_eq_true z) (tt_bnd.mpr (tt_bnd.mpr ((reach_loop (s := s7) hB (P := fun st s8 => st = ((pA (pf n) : Int), (pB (pf n) : Int)) ∧ s8 = s7) ⟨rfl, rfl⟩).then ?_)))
          rintro st8 s8 ⟨rfl, rfl⟩
          have em := law_made_ok (a := pA (pf n)) (b := pB (pf n)) hro.1 hro.2.1 (by omega)
          have hg : 0 < Nat.gcd (pA (pf n)) (pB (pf n)) := Nat.gcd_pos_of_pos_left _ hro.1
          have i1 : pA (pf n) / Nat.gcd (pA (pf n)) (pB (pf n)) * Nat.gcd (pA (pf n)) (pB (pf n)) = pA (pf n) := Nat.div_mul_cancel (Nat.gcd_dvd_left _ _)
          have i2 : pB (pf n) / Nat.gcd (pA (pf n)) (pB (pf n)) * Nat.gcd (pA (pf n)) (pB (pf n)) = pB (pf n) := Nat.div_mul_cancel (Nat.gcd_dvd_right _ _)
          have j1 := Nat.div_le_self (pA (pf n)) (Nat.gcd (pA (pf n)) (pB (pf n)))
          have j2 := Nat.div_le_self (pB (pf n)) (Nat.gcd (pA (pf n)) (pB (pf n)))
          have hr1 : (rch n).1 = ((pA (pf n) / Nat.gcd (pA (pf n)) (pB (pf n)) : Nat) : Int) := rfl
          have hr2 : (rch n).2 = ((pB (pf n) / Nat.gcd (pA (pf n)) (pB (pf n)) : Nat) : Int) := rfl
          have sm1 : Sm (rch n).1 := by rw [hr1]; exact sm_nat (by omega)
          have sm2 : Sm (rch n).2 := by rw [hr2]; exact sm_nat (by omega)
          refine (tt_lft em).mpr (Tt.bd (a' := rch n) rfl ((tt_lft ere).mpr (Tt.then (P' := fun c s9 => c = false ∧ s9 = s8) (Tt.neg (by rw [decide_eq_true rfl]; decide) ((tt_lft eob).mpr (Tt.then (P' := fun c s9 => c = false ∧ s9 = s8) ?_ fun c s9 e => tt_pure.mpr e))) ?_)))
          · cases ob with
            | none => exact Tt.pos rfl (tt_grd.mpr ⟨⟨sm_small (by decide), sm2⟩, tt_pure.mpr ⟨decide_eq_false (hob rfl), rfl⟩⟩)
            | some v => exact Tt.neg (show ¬ false = true by decide) (tt_pure.mpr ⟨rfl, rfl⟩)
          · rintro c9 s9 ⟨rfl, rfl⟩
            refine Tt.neg (by decide) (Tt.then (P' := fun c s10 => c = false ∧ s10 = s9) ?_ ?_)
            · by_cases y : (2 : Int) < (n : Int)
              · refine Tt.pos (decide_eq_true y) (tt_grd.mpr ⟨⟨sm_nat (by omega), sm2⟩, tt_grd.mpr ⟨⟨hsm, sm1⟩, tt_pure.mpr ⟨decide_eq_false ?_, rfl⟩⟩⟩)
                rw [hr1, hr2, ← Int.natCast_mul, ← Int.natCast_mul]
                have hne : pf n ≠ [] := fun e => by
                  have := pf_prd hn0 (by omega : n < 2 ^ 64)
                  rw [e] at this
                  have : (1 : Nat) = n := this
                  omega
                have hlt := (reach_le (pf_ok2 hn0 (by omega : n < 2 ^ 64))).2.1 hne
                rw [pf_prd hn0 (by omega : n < 2 ^ 64)] at hlt
                have hlt : sg n * pB (pf n) < n * pA (pf n) := hlt
                generalize pA (pf n) / Nat.gcd (pA (pf n)) (pB (pf n)) = u at *
                generalize pB (pf n) / Nat.gcd (pA (pf n)) (pB (pf n)) = v at *
                generalize Nat.gcd (pA (pf n)) (pB (pf n)) = g at *
                intro hq
                have hq : n * u ≤ sg n * v := by omega
                have := Nat.mul_le_mul_right g hq
                rw [Nat.mul_assoc, Nat.mul_assoc, i1, i2] at this
                omega
              · exact Tt.neg (by rw [decide_eq_false y]; decide) (tt_pure.mpr ⟨rfl, rfl⟩)
            · rintro c10 s10 ⟨rfl, rfl⟩
              exact Tt.neg (by decide) (tt_pure.mpr ⟨rfl, rfl⟩)
        · exact Tt.neg (by rw [decide_eq_false z]; decide) (tt_pure.mpr ⟨rfl, rfl⟩)
      rcases perf_ok hB hI.l with ⟨q1, p, q2, q3, q4, q5⟩ | ⟨q1, q2, q4, q5⟩
      · have hz : ex = 0 := hex0.mp q1
        refine (tt_lft q2).mpr (tt_bnd.mpr ((tt_lft q4).mpr (tt_bnd.mpr (Tt.neg ?_ ((tt_lft q5).mpr (Tt.neg (by decide) (Tt.then (P' := fun c s8 => c = false ∧ s8 = s7) (Tt.pos rfl ((tt_lft (o := some (p : Int)) rfl).mpr ((tt_lft q3).mpr (tt_pure.mpr ⟨by rw [decide_eq_true rfl]; rfl, rfl⟩)))) ?_)))))))
        · rw [decide_eq_true hz]
          show ¬ ((!decide ((!false) = true)) || (!decide ((decide (("even" : Str) = ("even" : Str))) = true))) = true
          decide
        · rintro c8 s8 ⟨rfl, rfl⟩
          exact Tt.neg (by decide) (tail.mono (by rintro o s9 ⟨rfl, rfl⟩; exact hfin4))
      · have hz : ¬ ex = 0 := fun e => q1 (hex0.mpr e)
        refine (tt_lft q2).mpr (tt_bnd.mpr ((tt_lft q4).mpr (tt_bnd.mpr (Tt.neg ?_ ((tt_lft q5).mpr (Tt.neg (by decide) (Tt.then (P' := fun c s8 => c = false ∧ s8 = s7) (Tt.neg (show ¬ (!true) = true by decide) (tt_pure.mpr ⟨rfl, rfl⟩)) ?_)))))))
        · rw [decide_eq_false hz]
          show ¬ ((!decide ((!true) = false)) || (!decide ((decide (("sum" : Str) = ("even" : Str))) = false))) = true
          decide
        · rintro c8 s8 ⟨rfl, rfl⟩
          exact Tt.neg (by decide) (tail.mono (by rintro o s9 ⟨rfl, rfl⟩; exact hfin4))
    · rintro st s1 ⟨_, q⟩
      exact ⟨rfl, q.le (by decide)⟩
  · rintro o s1 ⟨rfl, hp⟩
    exact (known_ok (b := 8) hp).then fun a s2 e => tt_bnd.mpr (tt_pure.mpr e)
theorem main_law : ∀ ns : List Int, ns.length ≤ 63 → (∀ i ∈ ns, Builtin.Int.intBits i ≤ 1048576) → okLaw ns := by
  intro ns hl hb
  obtain ⟨s, e, h⟩ := pot_ok hb hl
  obtain ⟨a, s1, e1, rfl⟩ := law_ok (h.le (by decide))
  exact ⟨s, s1, e, e1⟩
end Wk
set_option Elab.async false
set_option maxRecDepth 100000
set_option maxHeartbeats 4000000
set_option linter.all false
namespace Wk
open PySem L2
open PyProof.Rows hiding St
theorem all_mk {l : PySem.W.OpenLaw} {w : World} {K : PySem.W.Frag} {h : Heap} {mg : Str → Option Value} {fa : Addr} (X : K.In h) (G : h.Ns mainGlobals mg) (hfa : mg "law" = some (.ref fa))
    {f0 : Addr} {od0 an0 : Option Addr} {sl0 : Array (Option Value)} {oc0 kV0 dc0 pm0 cd0 ct0 : Value}
    (a0 : PySem.W.nsIn K mainGlobals "is_integer" = some (some (.ref f0))) (l0 : K.lookup f0 = some ⟨oc0, od0, .func (PySem.W.fnOf "is_integer" "is_integer" (defArgs t_is_integer) (defBody t_is_integer) (defScope t_is_integer) .none kV0 dc0 pm0 an0 cd0 ct0), sl0⟩) (c0 : PySem.W.codeIn K cd0 "is_integer" = true) (k0 : PySem.W.keepIn K (.ref f0) = true)
    {f1 : Addr} {od1 an1 : Option Addr} {sl1 : Array (Option Value)} {oc1 kV1 dc1 pm1 cd1 ct1 : Value}
    (a1 : PySem.W.nsIn K mainGlobals "taken_out" = some (some (.ref f1))) (l1 : K.lookup f1 = some ⟨oc1, od1, .func (PySem.W.fnOf "taken_out" "taken_out" (defArgs t_taken_out) (defBody t_taken_out) (defScope t_taken_out) .none kV1 dc1 pm1 an1 cd1 ct1), sl1⟩) (c1 : PySem.W.codeIn K cd1 "taken_out" = true) (k1 : PySem.W.keepIn K (.ref f1) = true)
    {f2 : Addr} {od2 an2 : Option Addr} {sl2 : Array (Option Value)} {oc2 kV2 dc2 pm2 cd2 ct2 : Value}
    (a2 : PySem.W.nsIn K mainGlobals "power_left" = some (some (.ref f2))) (l2 : K.lookup f2 = some ⟨oc2, od2, .func (PySem.W.fnOf "power_left" "power_left" (defArgs t_power_left) (defBody t_power_left) (defScope t_power_left) .none kV2 dc2 pm2 an2 cd2 ct2), sl2⟩) (c2 : PySem.W.codeIn K cd2 "power_left" = true) (k2 : PySem.W.keepIn K (.ref f2) = true)
    {f3 : Addr} {od3 an3 : Option Addr} {sl3 : Array (Option Value)} {oc3 kV3 dc3 pm3 cd3 ct3 : Value}
    (a3 : PySem.W.nsIn K mainGlobals "does_pass" = some (some (.ref f3))) (l3 : K.lookup f3 = some ⟨oc3, od3, .func (PySem.W.fnOf "does_pass" "does_pass" (defArgs t_does_pass) (defBody t_does_pass) (defScope t_does_pass) .none kV3 dc3 pm3 an3 cd3 ct3), sl3⟩) (c3 : PySem.W.codeIn K cd3 "does_pass" = true) (k3 : PySem.W.keepIn K (.ref f3) = true)
    {f4 : Addr} {od4 an4 : Option Addr} {sl4 : Array (Option Value)} {oc4 kV4 dc4 pm4 cd4 ct4 : Value}
    (a4 : PySem.W.nsIn K mainGlobals "is_prime_number" = some (some (.ref f4))) (l4 : K.lookup f4 = some ⟨oc4, od4, .func (PySem.W.fnOf "is_prime_number" "is_prime_number" (defArgs t_is_prime_number) (defBody t_is_prime_number) (defScope t_is_prime_number) .none kV4 dc4 pm4 an4 cd4 ct4), sl4⟩) (c4 : PySem.W.codeIn K cd4 "is_prime_number" = true) (k4 : PySem.W.keepIn K (.ref f4) = true)
    {f5 : Addr} {od5 an5 : Option Addr} {sl5 : Array (Option Value)} {oc5 kV5 dc5 pm5 cd5 ct5 : Value}
    (a5 : PySem.W.nsIn K mainGlobals "primes_of" = some (some (.ref f5))) (l5 : K.lookup f5 = some ⟨oc5, od5, .func (PySem.W.fnOf "primes_of" "primes_of" (defArgs t_primes_of) (defBody t_primes_of) (defScope t_primes_of) .none kV5 dc5 pm5 an5 cd5 ct5), sl5⟩) (c5 : PySem.W.codeIn K cd5 "primes_of" = true) (k5 : PySem.W.keepIn K (.ref f5) = true)
    {f6 : Addr} {od6 an6 : Option Addr} {sl6 : Array (Option Value)} {oc6 kV6 dc6 pm6 cd6 ct6 : Value}
    (a6 : PySem.W.nsIn K mainGlobals "power_of" = some (some (.ref f6))) (l6 : K.lookup f6 = some ⟨oc6, od6, .func (PySem.W.fnOf "power_of" "power_of" (defArgs t_power_of) (defBody t_power_of) (defScope t_power_of) .none kV6 dc6 pm6 an6 cd6 ct6), sl6⟩) (c6 : PySem.W.codeIn K cd6 "power_of" = true) (k6 : PySem.W.keepIn K (.ref f6) = true)
    {f7 : Addr} {od7 an7 : Option Addr} {sl7 : Array (Option Value)} {oc7 kV7 dc7 pm7 cd7 ct7 : Value}
    (a7 : PySem.W.nsIn K mainGlobals "divisor_sum" = some (some (.ref f7))) (l7 : K.lookup f7 = some ⟨oc7, od7, .func (PySem.W.fnOf "divisor_sum" "divisor_sum" (defArgs t_divisor_sum) (defBody t_divisor_sum) (defScope t_divisor_sum) .none kV7 dc7 pm7 an7 cd7 ct7), sl7⟩) (c7 : PySem.W.codeIn K cd7 "divisor_sum" = true) (k7 : PySem.W.keepIn K (.ref f7) = true)
    {f8 : Addr} {od8 an8 : Option Addr} {sl8 : Array (Option Value)} {oc8 kV8 dc8 pm8 cd8 ct8 : Value}
    (a8 : PySem.W.nsIn K mainGlobals "two_less" = some (some (.ref f8))) (l8 : K.lookup f8 = some ⟨oc8, od8, .func (PySem.W.fnOf "two_less" "two_less" (defArgs t_two_less) (defBody t_two_less) (defScope t_two_less) .none kV8 dc8 pm8 an8 cd8 ct8), sl8⟩) (c8 : PySem.W.codeIn K cd8 "two_less" = true) (k8 : PySem.W.keepIn K (.ref f8) = true)
    {f9 : Addr} {od9 an9 : Option Addr} {sl9 : Array (Option Value)} {oc9 kV9 dc9 pm9 cd9 ct9 : Value}
    (a9 : PySem.W.nsIn K mainGlobals "squares_rest" = some (some (.ref f9))) (l9 : K.lookup f9 = some ⟨oc9, od9, .func (PySem.W.fnOf "squares_rest" "squares_rest" (defArgs t_squares_rest) (defBody t_squares_rest) (defScope t_squares_rest) .none kV9 dc9 pm9 an9 cd9 ct9), sl9⟩) (c9 : PySem.W.codeIn K cd9 "squares_rest" = true) (k9 : PySem.W.keepIn K (.ref f9) = true)
    {f10 : Addr} {od10 an10 : Option Addr} {sl10 : Array (Option Value)} {oc10 kV10 dc10 pm10 cd10 ct10 : Value}
    (a10 : PySem.W.nsIn K mainGlobals "two_less_is_prime" = some (some (.ref f10))) (l10 : K.lookup f10 = some ⟨oc10, od10, .func (PySem.W.fnOf "two_less_is_prime" "two_less_is_prime" (defArgs t_two_less_is_prime) (defBody t_two_less_is_prime) (defScope t_two_less_is_prime) .none kV10 dc10 pm10 an10 cd10 ct10), sl10⟩) (c10 : PySem.W.codeIn K cd10 "two_less_is_prime" = true) (k10 : PySem.W.keepIn K (.ref f10) = true)
    {f11 : Addr} {od11 an11 : Option Addr} {sl11 : Array (Option Value)} {oc11 kV11 dc11 pm11 cd11 ct11 : Value}
    (a11 : PySem.W.nsIn K mainGlobals "is_perfect" = some (some (.ref f11))) (l11 : K.lookup f11 = some ⟨oc11, od11, .func (PySem.W.fnOf "is_perfect" "is_perfect" (defArgs t_is_perfect) (defBody t_is_perfect) (defScope t_is_perfect) .none kV11 dc11 pm11 an11 cd11 ct11), sl11⟩) (c11 : PySem.W.codeIn K cd11 "is_perfect" = true) (k11 : PySem.W.keepIn K (.ref f11) = true)
    {f12 : Addr} {od12 an12 : Option Addr} {sl12 : Array (Option Value)} {oc12 kV12 dc12 pm12 cd12 ct12 : Value}
    (a12 : PySem.W.nsIn K mainGlobals "even_perfect" = some (some (.ref f12))) (l12 : K.lookup f12 = some ⟨oc12, od12, .func (PySem.W.fnOf "even_perfect" "even_perfect" (defArgs t_even_perfect) (defBody t_even_perfect) (defScope t_even_perfect) .none kV12 dc12 pm12 an12 cd12 ct12), sl12⟩) (c12 : PySem.W.codeIn K cd12 "even_perfect" = true) (k12 : PySem.W.keepIn K (.ref f12) = true)
    {f13 : Addr} {od13 an13 : Option Addr} {sl13 : Array (Option Value)} {oc13 kV13 dc13 pm13 cd13 ct13 : Value}
    (a13 : PySem.W.nsIn K mainGlobals "perfect_exponent" = some (some (.ref f13))) (l13 : K.lookup f13 = some ⟨oc13, od13, .func (PySem.W.fnOf "perfect_exponent" "perfect_exponent" (defArgs t_perfect_exponent) (defBody t_perfect_exponent) (defScope t_perfect_exponent) .none kV13 dc13 pm13 an13 cd13 ct13), sl13⟩) (c13 : PySem.W.codeIn K cd13 "perfect_exponent" = true) (k13 : PySem.W.keepIn K (.ref f13) = true)
    {f14 : Addr} {od14 an14 : Option Addr} {sl14 : Array (Option Value)} {oc14 kV14 dc14 pm14 cd14 ct14 : Value}
    (a14 : PySem.W.nsIn K mainGlobals "perfect_paper" = some (some (.ref f14))) (l14 : K.lookup f14 = some ⟨oc14, od14, .func (PySem.W.fnOf "perfect_paper" "perfect_paper" (defArgs t_perfect_paper) (defBody t_perfect_paper) (defScope t_perfect_paper) .none kV14 dc14 pm14 an14 cd14 ct14), sl14⟩) (c14 : PySem.W.codeIn K cd14 "perfect_paper" = true) (k14 : PySem.W.keepIn K (.ref f14) = true)
    {f15 : Addr} {od15 an15 : Option Addr} {sl15 : Array (Option Value)} {oc15 kV15 dc15 pm15 cd15 ct15 : Value}
    (a15 : PySem.W.nsIn K mainGlobals "perfect_paper_error" = some (some (.ref f15))) (l15 : K.lookup f15 = some ⟨oc15, od15, .func (PySem.W.fnOf "perfect_paper_error" "perfect_paper_error" (defArgs t_perfect_paper_error) (defBody t_perfect_paper_error) (defScope t_perfect_paper_error) .none kV15 dc15 pm15 an15 cd15 ct15), sl15⟩) (c15 : PySem.W.codeIn K cd15 "perfect_paper_error" = true) (k15 : PySem.W.keepIn K (.ref f15) = true)
    {f16 : Addr} {od16 an16 : Option Addr} {sl16 : Array (Option Value)} {oc16 kV16 dc16 pm16 cd16 ct16 : Value}
    (a16 : PySem.W.nsIn K mainGlobals "common_divisor" = some (some (.ref f16))) (l16 : K.lookup f16 = some ⟨oc16, od16, .func (PySem.W.fnOf "common_divisor" "common_divisor" (defArgs t_common_divisor) (defBody t_common_divisor) (defScope t_common_divisor) .none kV16 dc16 pm16 an16 cd16 ct16), sl16⟩) (c16 : PySem.W.codeIn K cd16 "common_divisor" = true) (k16 : PySem.W.keepIn K (.ref f16) = true)
    {f17 : Addr} {od17 an17 : Option Addr} {sl17 : Array (Option Value)} {oc17 kV17 dc17 pm17 cd17 ct17 : Value}
    (a17 : PySem.W.nsIn K mainGlobals "odd_parts" = some (some (.ref f17))) (l17 : K.lookup f17 = some ⟨oc17, od17, .func (PySem.W.fnOf "odd_parts" "odd_parts" (defArgs t_odd_parts) (defBody t_odd_parts) (defScope t_odd_parts) .none kV17 dc17 pm17 an17 cd17 ct17), sl17⟩) (c17 : PySem.W.codeIn K cd17 "odd_parts" = true) (k17 : PySem.W.keepIn K (.ref f17) = true)
    {f18 : Addr} {od18 an18 : Option Addr} {sl18 : Array (Option Value)} {oc18 kV18 dc18 pm18 cd18 ct18 : Value}
    (a18 : PySem.W.nsIn K mainGlobals "reach_of" = some (some (.ref f18))) (l18 : K.lookup f18 = some ⟨oc18, od18, .func (PySem.W.fnOf "reach_of" "reach_of" (defArgs t_reach_of) (defBody t_reach_of) (defScope t_reach_of) .none kV18 dc18 pm18 an18 cd18 ct18), sl18⟩) (c18 : PySem.W.codeIn K cd18 "reach_of" = true) (k18 : PySem.W.keepIn K (.ref f18) = true)
    {f19 : Addr} {od19 an19 : Option Addr} {sl19 : Array (Option Value)} {oc19 kV19 dc19 pm19 cd19 ct19 : Value}
    (a19 : PySem.W.nsIn K mainGlobals "odd_bar" = some (some (.ref f19))) (l19 : K.lookup f19 = some ⟨oc19, od19, .func (PySem.W.fnOf "odd_bar" "odd_bar" (defArgs t_odd_bar) (defBody t_odd_bar) (defScope t_odd_bar) .none kV19 dc19 pm19 an19 cd19 ct19), sl19⟩) (c19 : PySem.W.codeIn K cd19 "odd_bar" = true) (k19 : PySem.W.keepIn K (.ref f19) = true)
    {f20 : Addr} {od20 an20 : Option Addr} {sl20 : Array (Option Value)} {oc20 kV20 dc20 pm20 cd20 ct20 : Value}
    (a20 : PySem.W.nsIn K mainGlobals "divisors_told" = some (some (.ref f20))) (l20 : K.lookup f20 = some ⟨oc20, od20, .func (PySem.W.fnOf "divisors_told" "divisors_told" (defArgs t_divisors_told) (defBody t_divisors_told) (defScope t_divisors_told) .none kV20 dc20 pm20 an20 cd20 ct20), sl20⟩) (c20 : PySem.W.codeIn K cd20 "divisors_told" = true) (k20 : PySem.W.keepIn K (.ref f20) = true)
    {f21 : Addr} {od21 an21 : Option Addr} {sl21 : Array (Option Value)} {oc21 kV21 dc21 pm21 cd21 ct21 : Value}
    (a21 : PySem.W.nsIn K mainGlobals "excess_of" = some (some (.ref f21))) (l21 : K.lookup f21 = some ⟨oc21, od21, .func (PySem.W.fnOf "excess_of" "excess_of" (defArgs t_excess_of) (defBody t_excess_of) (defScope t_excess_of) .none kV21 dc21 pm21 an21 cd21 ct21), sl21⟩) (c21 : PySem.W.codeIn K cd21 "excess_of" = true) (k21 : PySem.W.keepIn K (.ref f21) = true)
    {f22 : Addr} {od22 an22 : Option Addr} {sl22 : Array (Option Value)} {oc22 kV22 dc22 pm22 cd22 ct22 : Value}
    (a22 : PySem.W.nsIn K mainGlobals "kind_of" = some (some (.ref f22))) (l22 : K.lookup f22 = some ⟨oc22, od22, .func (PySem.W.fnOf "kind_of" "kind_of" (defArgs t_kind_of) (defBody t_kind_of) (defScope t_kind_of) .none kV22 dc22 pm22 an22 cd22 ct22), sl22⟩) (c22 : PySem.W.codeIn K cd22 "kind_of" = true) (k22 : PySem.W.keepIn K (.ref f22) = true)
    {f23 : Addr} {od23 an23 : Option Addr} {sl23 : Array (Option Value)} {oc23 kV23 dc23 pm23 cd23 ct23 : Value}
    (a23 : PySem.W.nsIn K mainGlobals "first_divisor" = some (some (.ref f23))) (l23 : K.lookup f23 = some ⟨oc23, od23, .func (PySem.W.fnOf "first_divisor" "first_divisor" (defArgs t_first_divisor) (defBody t_first_divisor) (defScope t_first_divisor) .none kV23 dc23 pm23 an23 cd23 ct23), sl23⟩) (c23 : PySem.W.codeIn K cd23 "first_divisor" = true) (k23 : PySem.W.keepIn K (.ref f23) = true)
    {f24 : Addr} {od24 an24 : Option Addr} {sl24 : Array (Option Value)} {oc24 kV24 dc24 pm24 cd24 ct24 : Value}
    (a24 : PySem.W.nsIn K mainGlobals "is_first_one" = some (some (.ref f24))) (l24 : K.lookup f24 = some ⟨oc24, od24, .func (PySem.W.fnOf "is_first_one" "is_first_one" (defArgs t_is_first_one) (defBody t_is_first_one) (defScope t_is_first_one) .none kV24 dc24 pm24 an24 cd24 ct24), sl24⟩) (c24 : PySem.W.codeIn K cd24 "is_first_one" = true) (k24 : PySem.W.keepIn K (.ref f24) = true)
    {f25 : Addr} {od25 an25 : Option Addr} {sl25 : Array (Option Value)} {oc25 kV25 dc25 pm25 cd25 ct25 : Value}
    (a25 : PySem.W.nsIn K mainGlobals "fraction_of" = some (some (.ref f25))) (l25 : K.lookup f25 = some ⟨oc25, od25, .func (PySem.W.fnOf "fraction_of" "fraction_of" (defArgs t_fraction_of) (defBody t_fraction_of) (defScope t_fraction_of) .none kV25 dc25 pm25 an25 cd25 ct25), sl25⟩) (c25 : PySem.W.codeIn K cd25 "fraction_of" = true) (k25 : PySem.W.keepIn K (.ref f25) = true)
    {f26 : Addr} {od26 an26 : Option Addr} {sl26 : Array (Option Value)} {oc26 kV26 dc26 pm26 cd26 ct26 : Value}
    (a26 : PySem.W.nsIn K mainGlobals "share_of" = some (some (.ref f26))) (l26 : K.lookup f26 = some ⟨oc26, od26, .func (PySem.W.fnOf "share_of" "share_of" (defArgs t_share_of) (defBody t_share_of) (defScope t_share_of) .none kV26 dc26 pm26 an26 cd26 ct26), sl26⟩) (c26 : PySem.W.codeIn K cd26 "share_of" = true) (k26 : PySem.W.keepIn K (.ref f26) = true)
    {f27 : Addr} {od27 an27 : Option Addr} {sl27 : Array (Option Value)} {oc27 kV27 dc27 pm27 cd27 ct27 : Value}
    (a27 : PySem.W.nsIn K mainGlobals "often_as_much" = some (some (.ref f27))) (l27 : K.lookup f27 = some ⟨oc27, od27, .func (PySem.W.fnOf "often_as_much" "often_as_much" (defArgs t_often_as_much) (defBody t_often_as_much) (defScope t_often_as_much) .none kV27 dc27 pm27 an27 cd27 ct27), sl27⟩) (c27 : PySem.W.codeIn K cd27 "often_as_much" = true) (k27 : PySem.W.keepIn K (.ref f27) = true)
    {f28 : Addr} {od28 an28 : Option Addr} {sl28 : Array (Option Value)} {oc28 kV28 dc28 pm28 cd28 ct28 : Value}
    (a28 : PySem.W.nsIn K mainGlobals "power_sum" = some (some (.ref f28))) (l28 : K.lookup f28 = some ⟨oc28, od28, .func (PySem.W.fnOf "power_sum" "power_sum" (defArgs t_power_sum) (defBody t_power_sum) (defScope t_power_sum) .none kV28 dc28 pm28 an28 cd28 ct28), sl28⟩) (c28 : PySem.W.codeIn K cd28 "power_sum" = true) (k28 : PySem.W.keepIn K (.ref f28) = true)
    {f29 : Addr} {od29 an29 : Option Addr} {sl29 : Array (Option Value)} {oc29 kV29 dc29 pm29 cd29 ct29 : Value}
    (a29 : PySem.W.nsIn K mainGlobals "prime_shares" = some (some (.ref f29))) (l29 : K.lookup f29 = some ⟨oc29, od29, .func (PySem.W.fnOf "prime_shares" "prime_shares" (defArgs t_prime_shares) (defBody t_prime_shares) (defScope t_prime_shares) .none kV29 dc29 pm29 an29 cd29 ct29), sl29⟩) (c29 : PySem.W.codeIn K cd29 "prime_shares" = true) (k29 : PySem.W.keepIn K (.ref f29) = true)
    {f30 : Addr} {od30 an30 : Option Addr} {sl30 : Array (Option Value)} {oc30 kV30 dc30 pm30 cd30 ct30 : Value}
    (a30 : PySem.W.nsIn K mainGlobals "are_friends" = some (some (.ref f30))) (l30 : K.lookup f30 = some ⟨oc30, od30, .func (PySem.W.fnOf "are_friends" "are_friends" (defArgs t_are_friends) (defBody t_are_friends) (defScope t_are_friends) .none kV30 dc30 pm30 an30 cd30 ct30), sl30⟩) (c30 : PySem.W.codeIn K cd30 "are_friends" = true) (k30 : PySem.W.keepIn K (.ref f30) = true)
    {f31 : Addr} {od31 an31 : Option Addr} {sl31 : Array (Option Value)} {oc31 kV31 dc31 pm31 cd31 ct31 : Value}
    (a31 : PySem.W.nsIn K mainGlobals "is_seen_alone" = some (some (.ref f31))) (l31 : K.lookup f31 = some ⟨oc31, od31, .func (PySem.W.fnOf "is_seen_alone" "is_seen_alone" (defArgs t_is_seen_alone) (defBody t_is_seen_alone) (defScope t_is_seen_alone) .none kV31 dc31 pm31 an31 cd31 ct31), sl31⟩) (c31 : PySem.W.codeIn K cd31 "is_seen_alone" = true) (k31 : PySem.W.keepIn K (.ref f31) = true)
    {f32 : Addr} {od32 an32 : Option Addr} {sl32 : Array (Option Value)} {oc32 kV32 dc32 pm32 cd32 ct32 : Value}
    (a32 : PySem.W.nsIn K mainGlobals "_law_of" = some (some (.ref f32))) (l32 : K.lookup f32 = some ⟨oc32, od32, .func (PySem.W.fnOf "_law_of" "_law_of" (defArgs t__law_of) (defBody t__law_of) (defScope t__law_of) .none kV32 dc32 pm32 an32 cd32 ct32), sl32⟩) (c32 : PySem.W.codeIn K cd32 "_law_of" = true) (k32 : PySem.W.keepIn K (.ref f32) = true)
    {f33 : Addr} {od33 an33 : Option Addr} {sl33 : Array (Option Value)} {oc33 kV33 dc33 pm33 cd33 ct33 : Value}
    (a33 : PySem.W.nsIn K mainGlobals "_law_one" = some (some (.ref f33))) (l33 : K.lookup f33 = some ⟨oc33, od33, .func (PySem.W.fnOf "_law_one" "_law_one" (defArgs t__law_one) (defBody t__law_one) (defScope t__law_one) .none kV33 dc33 pm33 an33 cd33 ct33), sl33⟩) (c33 : PySem.W.codeIn K cd33 "_law_one" = true) (k33 : PySem.W.keepIn K (.ref f33) = true)
    {f34 : Addr} {od34 an34 : Option Addr} {sl34 : Array (Option Value)} {oc34 kV34 dc34 pm34 cd34 ct34 : Value}
    (a34 : PySem.W.nsIn K mainGlobals "_law_one" = some (some (.ref f34))) (l34 : K.lookup f34 = some ⟨oc34, od34, .func (PySem.W.fnOf "_law_one" "_law_one" (defArgs t__law_one_b) (defBody t__law_one_b) (defScope t__law_one_b) .none kV34 dc34 pm34 an34 cd34 ct34), sl34⟩) (c34 : PySem.W.codeIn K cd34 "_law_one" = true) (k34 : PySem.W.keepIn K (.ref f34) = true)
    {f35 : Addr} {od35 an35 : Option Addr} {sl35 : Array (Option Value)} {oc35 kV35 dc35 pm35 cd35 ct35 : Value}
    (a35 : PySem.W.nsIn K mainGlobals "_law_flat" = some (some (.ref f35))) (l35 : K.lookup f35 = some ⟨oc35, od35, .func (PySem.W.fnOf "_law_flat" "_law_flat" (defArgs t__law_flat) (defBody t__law_flat) (defScope t__law_flat) .none kV35 dc35 pm35 an35 cd35 ct35), sl35⟩) (c35 : PySem.W.codeIn K cd35 "_law_flat" = true) (k35 : PySem.W.keepIn K (.ref f35) = true)
    {f36 : Addr} {od36 an36 : Option Addr} {sl36 : Array (Option Value)} {oc36 kV36 dc36 pm36 cd36 ct36 : Value}
    (a36 : PySem.W.nsIn K mainGlobals "_law_common" = some (some (.ref f36))) (l36 : K.lookup f36 = some ⟨oc36, od36, .func (PySem.W.fnOf "_law_common" "_law_common" (defArgs t__law_common) (defBody t__law_common) (defScope t__law_common) .none kV36 dc36 pm36 an36 cd36 ct36), sl36⟩) (c36 : PySem.W.codeIn K cd36 "_law_common" = true) (k36 : PySem.W.keepIn K (.ref f36) = true)
    {f37 : Addr} {od37 an37 : Option Addr} {sl37 : Array (Option Value)} {oc37 kV37 dc37 pm37 cd37 ct37 : Value}
    (a37 : PySem.W.nsIn K mainGlobals "_law_made" = some (some (.ref f37))) (l37 : K.lookup f37 = some ⟨oc37, od37, .func (PySem.W.fnOf "_law_made" "_law_made" (defArgs t__law_made) (defBody t__law_made) (defScope t__law_made) .none kV37 dc37 pm37 an37 cd37 ct37), sl37⟩) (c37 : PySem.W.codeIn K cd37 "_law_made" = true) (k37 : PySem.W.keepIn K (.ref f37) = true)
    {f38 : Addr} {od38 an38 : Option Addr} {sl38 : Array (Option Value)} {oc38 kV38 dc38 pm38 cd38 ct38 : Value}
    (a38 : PySem.W.nsIn K mainGlobals "_law_raised" = some (some (.ref f38))) (l38 : K.lookup f38 = some ⟨oc38, od38, .func (PySem.W.fnOf "_law_raised" "_law_raised" (defArgs t__law_raised) (defBody t__law_raised) (defScope t__law_raised) .none kV38 dc38 pm38 an38 cd38 ct38), sl38⟩) (c38 : PySem.W.codeIn K cd38 "_law_raised" = true) (k38 : PySem.W.keepIn K (.ref f38) = true)
    {f39 : Addr} {od39 an39 : Option Addr} {sl39 : Array (Option Value)} {oc39 kV39 dc39 pm39 cd39 ct39 : Value}
    (a39 : PySem.W.nsIn K mainGlobals "_law_primes" = some (some (.ref f39))) (l39 : K.lookup f39 = some ⟨oc39, od39, .func (PySem.W.fnOf "_law_primes" "_law_primes" (defArgs t__law_primes) (defBody t__law_primes) (defScope t__law_primes) .none kV39 dc39 pm39 an39 cd39 ct39), sl39⟩) (c39 : PySem.W.codeIn K cd39 "_law_primes" = true) (k39 : PySem.W.keepIn K (.ref f39) = true)
    {f40 : Addr} {od40 an40 : Option Addr} {sl40 : Array (Option Value)} {oc40 kV40 dc40 pm40 cd40 ct40 : Value}
    (a40 : PySem.W.nsIn K mainGlobals "_law_told_number" = some (some (.ref f40))) (l40 : K.lookup f40 = some ⟨oc40, od40, .func (PySem.W.fnOf "_law_told_number" "_law_told_number" (defArgs t__law_told_number) (defBody t__law_told_number) (defScope t__law_told_number) .none kV40 dc40 pm40 an40 cd40 ct40), sl40⟩) (c40 : PySem.W.codeIn K cd40 "_law_told_number" = true) (k40 : PySem.W.keepIn K (.ref f40) = true)
    {f41 : Addr} {od41 an41 : Option Addr} {sl41 : Array (Option Value)} {oc41 kV41 dc41 pm41 cd41 ct41 : Value}
    (a41 : PySem.W.nsIn K mainGlobals "_law_divisors" = some (some (.ref f41))) (l41 : K.lookup f41 = some ⟨oc41, od41, .func (PySem.W.fnOf "_law_divisors" "_law_divisors" (defArgs t__law_divisors) (defBody t__law_divisors) (defScope t__law_divisors) .none kV41 dc41 pm41 an41 cd41 ct41), sl41⟩) (c41 : PySem.W.codeIn K cd41 "_law_divisors" = true) (k41 : PySem.W.keepIn K (.ref f41) = true)
    {f42 : Addr} {od42 an42 : Option Addr} {sl42 : Array (Option Value)} {oc42 kV42 dc42 pm42 cd42 ct42 : Value}
    (a42 : PySem.W.nsIn K mainGlobals "_law_sum" = some (some (.ref f42))) (l42 : K.lookup f42 = some ⟨oc42, od42, .func (PySem.W.fnOf "_law_sum" "_law_sum" (defArgs t__law_sum) (defBody t__law_sum) (defScope t__law_sum) .none kV42 dc42 pm42 an42 cd42 ct42), sl42⟩) (c42 : PySem.W.codeIn K cd42 "_law_sum" = true) (k42 : PySem.W.keepIn K (.ref f42) = true)
    {f43 : Addr} {od43 an43 : Option Addr} {sl43 : Array (Option Value)} {oc43 kV43 dc43 pm43 cd43 ct43 : Value}
    (a43 : PySem.W.nsIn K mainGlobals "_law_parting_of" = some (some (.ref f43))) (l43 : K.lookup f43 = some ⟨oc43, od43, .func (PySem.W.fnOf "_law_parting_of" "_law_parting_of" (defArgs t__law_parting_of) (defBody t__law_parting_of) (defScope t__law_parting_of) .none kV43 dc43 pm43 an43 cd43 ct43), sl43⟩) (c43 : PySem.W.codeIn K cd43 "_law_parting_of" = true) (k43 : PySem.W.keepIn K (.ref f43) = true)
    {f44 : Addr} {od44 an44 : Option Addr} {sl44 : Array (Option Value)} {oc44 kV44 dc44 pm44 cd44 ct44 : Value}
    (a44 : PySem.W.nsIn K mainGlobals "_law_small" = some (some (.ref f44))) (l44 : K.lookup f44 = some ⟨oc44, od44, .func (PySem.W.fnOf "_law_small" "_law_small" (defArgs t__law_small) (defBody t__law_small) (defScope t__law_small) .none kV44 dc44 pm44 an44 cd44 ct44), sl44⟩) (c44 : PySem.W.codeIn K cd44 "_law_small" = true) (k44 : PySem.W.keepIn K (.ref f44) = true)
    {f45 : Addr} {od45 an45 : Option Addr} {sl45 : Array (Option Value)} {oc45 kV45 dc45 pm45 cd45 ct45 : Value}
    (a45 : PySem.W.nsIn K mainGlobals "_law_are_known_right" = some (some (.ref f45))) (l45 : K.lookup f45 = some ⟨oc45, od45, .func (PySem.W.fnOf "_law_are_known_right" "_law_are_known_right" (defArgs t__law_are_known_right) (defBody t__law_are_known_right) (defScope t__law_are_known_right) .none kV45 dc45 pm45 an45 cd45 ct45), sl45⟩) (c45 : PySem.W.codeIn K cd45 "_law_are_known_right" = true) (k45 : PySem.W.keepIn K (.ref f45) = true)
    {f46 : Addr} {od46 an46 : Option Addr} {sl46 : Array (Option Value)} {oc46 kV46 dc46 pm46 cd46 ct46 : Value}
    (a46 : PySem.W.nsIn K mainGlobals "_law_pot" = some (some (.ref f46))) (l46 : K.lookup f46 = some ⟨oc46, od46, .func (PySem.W.fnOf "_law_pot" "_law_pot" (defArgs t__law_pot) (defBody t__law_pot) (defScope t__law_pot) .none kV46 dc46 pm46 an46 cd46 ct46), sl46⟩) (c46 : PySem.W.codeIn K cd46 "_law_pot" = true) (k46 : PySem.W.keepIn K (.ref f46) = true)
    {f47 : Addr} {od47 an47 : Option Addr} {sl47 : Array (Option Value)} {oc47 kV47 dc47 pm47 cd47 ct47 : Value}
    (a47 : PySem.W.nsIn K mainGlobals "law" = some (some (.ref f47))) (l47 : K.lookup f47 = some ⟨oc47, od47, .func (PySem.W.fnOf "law" "law" (defArgs t_law) (defBody t_law) (defScope t_law) .none kV47 dc47 pm47 an47 cd47 ct47), sl47⟩) (c47 : PySem.W.codeIn K cd47 "law" = true) (k47 : PySem.W.keepIn K (.ref f47) = true)
    (z0 : PySem.W.nsIn K mainGlobals "abs" = some none) (z1 : PySem.W.nsIn K mainGlobals "all" = some none) (z2 : PySem.W.nsIn K mainGlobals "bool" = some none) (z3 : PySem.W.nsIn K mainGlobals "int" = some none) (z4 : PySem.W.nsIn K mainGlobals "isinstance" = some none) (z5 : PySem.W.nsIn K mainGlobals "len" = some none) (z6 : PySem.W.nsIn K mainGlobals "list" = some none) (z7 : PySem.W.nsIn K mainGlobals "range" = some none) (z8 : PySem.W.nsIn K mainGlobals "repr" = some none) (z9 : PySem.W.nsIn K mainGlobals "sorted" = some none) (z10 : PySem.W.nsIn K mainGlobals "str" = some none) (z11 : PySem.W.nsIn K mainGlobals "sum" = some none) (z12 : PySem.W.nsIn K mainGlobals "tuple" = some none) {tk0 : Tok} (y0 : PySem.W.nsIn K mainGlobals "MAX_EXPONENT" = some (some (.int 607 tk0))) :
    ∃ fd : FuncData, (∀ (s : Shared) (v : Value), BindsTo s fd ⟨[v], []⟩ [("script", v)]) ∧ ∀ base : Heap, K.In base → base.Ns mainGlobals mg → base.NoDigits → FnG l.prog w K mg base CX0 9 fa fd ["script"] (spLaw K okLaw) := by
  have e := hfa.symm.trans (PySem.W.mg_of X G a47)
  cases e
  have F0 := fun_mk (st := t_is_integer) l0 c0 k0
  have F1 := fun_mk (st := t_taken_out) l1 c1 k1
  have F2 := fun_mk (st := t_power_left) l2 c2 k2
  have F3 := fun_mk (st := t_does_pass) l3 c3 k3
  have F4 := fun_mk (st := t_is_prime_number) l4 c4 k4
  have F5 := fun_mk (st := t_primes_of) l5 c5 k5
  have F6 := fun_mk (st := t_power_of) l6 c6 k6
  have F7 := fun_mk (st := t_divisor_sum) l7 c7 k7
  have F8 := fun_mk (st := t_two_less) l8 c8 k8
  have F9 := fun_mk (st := t_squares_rest) l9 c9 k9
  have F10 := fun_mk (st := t_two_less_is_prime) l10 c10 k10
  have F11 := fun_mk (st := t_is_perfect) l11 c11 k11
  have F12 := fun_mk (st := t_even_perfect) l12 c12 k12
  have F13 := fun_mk (st := t_perfect_exponent) l13 c13 k13
  have F14 := fun_mk (st := t_perfect_paper) l14 c14 k14
  have F15 := fun_mk (st := t_perfect_paper_error) l15 c15 k15
  have F16 := fun_mk (st := t_common_divisor) l16 c16 k16
  have F17 := fun_mk (st := t_odd_parts) l17 c17 k17
  have F18 := fun_mk (st := t_reach_of) l18 c18 k18
  have F19 := fun_mk (st := t_odd_bar) l19 c19 k19
  have F20 := fun_mk (st := t_divisors_told) l20 c20 k20
  have F21 := fun_mk (st := t_excess_of) l21 c21 k21
  have F22 := fun_mk (st := t_kind_of) l22 c22 k22
  have F23 := fun_mk (st := t_first_divisor) l23 c23 k23
  have F24 := fun_mk (st := t_is_first_one) l24 c24 k24
  have F25 := fun_mk (st := t_fraction_of) l25 c25 k25
  have F26 := fun_mk (st := t_share_of) l26 c26 k26
  have F27 := fun_mk (st := t_often_as_much) l27 c27 k27
  have F28 := fun_mk (st := t_power_sum) l28 c28 k28
  have F29 := fun_mk (st := t_prime_shares) l29 c29 k29
  have F30 := fun_mk (st := t_are_friends) l30 c30 k30
  have F31 := fun_mk (st := t_is_seen_alone) l31 c31 k31
  have F32 := fun_mk (st := t__law_of) l32 c32 k32
  have F33 := fun_mk (st := t__law_one) l33 c33 k33
  have F34 := fun_mk (st := t__law_one_b) l34 c34 k34
  have F35 := fun_mk (st := t__law_flat) l35 c35 k35
  have F36 := fun_mk (st := t__law_common) l36 c36 k36
  have F37 := fun_mk (st := t__law_made) l37 c37 k37
  have F38 := fun_mk (st := t__law_raised) l38 c38 k38
  have F39 := fun_mk (st := t__law_primes) l39 c39 k39
  have F40 := fun_mk (st := t__law_told_number) l40 c40 k40
  have F41 := fun_mk (st := t__law_divisors) l41 c41 k41
  have F42 := fun_mk (st := t__law_sum) l42 c42 k42
  have F43 := fun_mk (st := t__law_parting_of) l43 c43 k43
  have F44 := fun_mk (st := t__law_small) l44 c44 k44
  have F45 := fun_mk (st := t__law_are_known_right) l45 c45 k45
  have F46 := fun_mk (st := t__law_pot) l46 c46 k46
  have F47 := fun_mk (st := t_law) l47 c47 k47
  have b0 := F0.binds (ps := ["value"]) fun _ _ _ _ _ _ us hl => match us, hl with | [_], _ => rfl
  have b1 := F1.binds (ps := ["number", "p"]) fun _ _ _ _ _ _ us hl => match us, hl with | [_, _], _ => rfl
  have b2 := F2.binds (ps := ["base", "often", "number"]) fun _ _ _ _ _ _ us hl => match us, hl with | [_, _, _], _ => rfl
  have b3 := F3.binds (ps := ["number", "base", "often", "odd"]) fun _ _ _ _ _ _ us hl => match us, hl with | [_, _, _, _], _ => rfl
  have b4 := F4.binds (ps := ["number"]) fun _ _ _ _ _ _ us hl => match us, hl with | [_], _ => rfl
  have b5 := F5.binds (ps := ["number"]) fun _ _ _ _ _ _ us hl => match us, hl with | [_], _ => rfl
  have b6 := F6.binds (ps := ["base", "often"]) fun _ _ _ _ _ _ us hl => match us, hl with | [_, _], _ => rfl
  have b7 := F7.binds (ps := ["number", "k"]) fun _ _ _ _ _ _ us hl => match us, hl with | [_, _], _ => rfl
  have b8 := F8.binds (ps := ["p"]) fun _ _ _ _ _ _ us hl => match us, hl with | [_], _ => rfl
  have b9 := F9.binds (ps := ["p"]) fun _ _ _ _ _ _ us hl => match us, hl with | [_], _ => rfl
  have b10 := F10.binds (ps := ["p"]) fun _ _ _ _ _ _ us hl => match us, hl with | [_], _ => rfl
  have b11 := F11.binds (ps := ["number"]) fun _ _ _ _ _ _ us hl => match us, hl with | [_], _ => rfl
  have b12 := F12.binds (ps := ["p"]) fun _ _ _ _ _ _ us hl => match us, hl with | [_], _ => rfl
  have b13 := F13.binds (ps := ["value"]) fun _ _ _ _ _ _ us hl => match us, hl with | [_], _ => rfl
  have b14 := F14.binds (ps := ["number"]) fun _ _ _ _ _ _ us hl => match us, hl with | [_], _ => rfl
  have b15 := F15.binds (ps := ["number", "value"]) fun _ _ _ _ _ _ us hl => match us, hl with | [_, _], _ => rfl
  have b16 := F16.binds (ps := ["one", "other"]) fun _ _ _ _ _ _ us hl => match us, hl with | [_, _], _ => rfl
  have b17 := F17.binds (ps := ["number"]) fun _ _ _ _ _ _ us hl => match us, hl with | [_], _ => rfl
  have b18 := F18.binds (ps := ["number"]) fun _ _ _ _ _ _ us hl => match us, hl with | [_], _ => rfl
  have b19 := F19.binds (ps := ["number"]) fun _ _ _ _ _ _ us hl => match us, hl with | [_], _ => rfl
  have b20 := F20.binds (ps := ["number"]) fun _ _ _ _ _ _ us hl => match us, hl with | [_], _ => rfl
  have b21 := F21.binds (ps := ["number"]) fun _ _ _ _ _ _ us hl => match us, hl with | [_], _ => rfl
  have b22 := F22.binds (ps := ["number"]) fun _ _ _ _ _ _ us hl => match us, hl with | [_], _ => rfl
  have b23 := F23.binds (ps := ["number"]) fun _ _ _ _ _ _ us hl => match us, hl with | [_], _ => rfl
  have b24 := F24.binds (ps := ["number"]) fun _ _ _ _ _ _ us hl => match us, hl with | [_], _ => rfl
  have b25 := F25.binds (ps := ["above", "below"]) fun _ _ _ _ _ _ us hl => match us, hl with | [_, _], _ => rfl
  have b26 := F26.binds (ps := ["number"]) fun _ _ _ _ _ _ us hl => match us, hl with | [_], _ => rfl
  have b27 := F27.binds (ps := ["number"]) fun _ _ _ _ _ _ us hl => match us, hl with | [_], _ => rfl
  have b28 := F28.binds (ps := ["p", "often"]) fun _ _ _ _ _ _ us hl => match us, hl with | [_, _], _ => rfl
  have b29 := F29.binds (ps := ["number"]) fun _ _ _ _ _ _ us hl => match us, hl with | [_], _ => rfl
  have b30 := F30.binds (ps := ["one", "other"]) fun _ _ _ _ _ _ us hl => match us, hl with | [_, _], _ => rfl
  have b31 := F31.binds (ps := ["number"]) fun _ _ _ _ _ _ us hl => match us, hl with | [_], _ => rfl
  have b32 := F32.binds (ps := ["pot", "many"]) fun _ _ _ _ _ _ us hl => match us, hl with | [_, _], _ => rfl
  have b33 := F33.binds (ps := ["pot", "items"]) fun _ _ _ _ _ _ us hl => match us, hl with | [_, _], _ => rfl
  have b34 := F34.binds (ps := ["pot", "items"]) fun _ _ _ _ _ _ us hl => match us, hl with | [_, _], _ => rfl
  have b35 := F35.binds (ps := ["rows"]) fun _ _ _ _ _ _ us hl => match us, hl with | [_], _ => rfl
  have b36 := F36.binds (ps := ["a", "b"]) fun _ _ _ _ _ _ us hl => match us, hl with | [_, _], _ => rfl
  have b37 := F37.binds (ps := ["above", "below"]) fun _ _ _ _ _ _ us hl => match us, hl with | [_, _], _ => rfl
  have b38 := F38.binds (ps := ["number", "often"]) fun _ _ _ _ _ _ us hl => match us, hl with | [_, _], _ => rfl
  have b39 := F39.binds (ps := ["number"]) fun _ _ _ _ _ _ us hl => match us, hl with | [_], _ => rfl
  have b40 := F40.binds (ps := ["parting"]) fun _ _ _ _ _ _ us hl => match us, hl with | [_], _ => rfl
  have b41 := F41.binds (ps := ["parting"]) fun _ _ _ _ _ _ us hl => match us, hl with | [_], _ => rfl
  have b42 := F42.binds (ps := ["parting", "k"]) fun _ _ _ _ _ _ us hl => match us, hl with | [_, _], _ => rfl
  have b43 := F43.binds (ps := ["pot", "most"]) fun _ _ _ _ _ _ us hl => match us, hl with | [_, _], _ => rfl
  have b44 := F44.binds (ps := ["pot"]) fun _ _ _ _ _ _ us hl => match us, hl with | [_], _ => rfl
  have b45 := F45.binds (ps := ["pot"]) fun _ _ _ _ _ _ us hl => match us, hl with | [_], _ => rfl
  have b46 := F46.binds (ps := ["script"]) fun _ _ _ _ _ _ us hl => match us, hl with | [_], _ => rfl
  refine ⟨PySem.W.fnOf "law" "law" (defArgs t_law) (defBody t_law) (defScope t_law) .none kV47 dc47 pm47 an47 cd47 ct47, fun s v => .of_eq rfl, fun base _ _ nd => ?_⟩
  have T : Tx mg base := ⟨nd, PySem.W.mg_none_of X G z0, PySem.W.mg_none_of X G z1, PySem.W.mg_none_of X G z2, PySem.W.mg_none_of X G z3, PySem.W.mg_none_of X G z4, PySem.W.mg_none_of X G z5, PySem.W.mg_none_of X G z6, PySem.W.mg_none_of X G z7, PySem.W.mg_none_of X G z8, PySem.W.mg_none_of X G z9, PySem.W.mg_none_of X G z10, PySem.W.mg_none_of X G z11, PySem.W.mg_none_of X G z12, ⟨_, PySem.W.mg_of X G y0⟩⟩
  have D0 : Dk l.prog w K mg base "is_integer" "is_integer" t_is_integer 1 ["value"] (sp_is_integer K) := ⟨_, _, F0, PySem.W.mg_of X G a0, g_is_integer T  F0, b0⟩
  have D1 : Dk l.prog w K mg base "taken_out" "taken_out" t_taken_out 1 ["number", "p"] (sp_taken_out K) := ⟨_, _, F1, PySem.W.mg_of X G a1, g_taken_out T  F1, b1⟩
  have D2 : Dk l.prog w K mg base "power_left" "power_left" t_power_left 1 ["base", "often", "number"] (sp_power_left K) := ⟨_, _, F2, PySem.W.mg_of X G a2, g_power_left T  F2, b2⟩
  have D3 : Dk l.prog w K mg base "does_pass" "does_pass" t_does_pass 2 ["number", "base", "often", "odd"] (sp_does_pass K) := ⟨_, _, F3, PySem.W.mg_of X G a3, g_does_pass T D2 F3, b3⟩
  have D4 : Dk l.prog w K mg base "is_prime_number" "is_prime_number" t_is_prime_number 3 ["number"] (sp_is_prime_number K) := ⟨_, _, F4, PySem.W.mg_of X G a4, g_is_prime_number T D1 D3 F4, b4⟩
  have D5 : Dk l.prog w K mg base "primes_of" "primes_of" t_primes_of 4 ["number"] (sp_primes_of K) := ⟨_, _, F5, PySem.W.mg_of X G a5, g_primes_of T D1 D4 F5, b5⟩
  have D6 : Dk l.prog w K mg base "power_of" "power_of" t_power_of 1 ["base", "often"] (sp_power_of K) := ⟨_, _, F6, PySem.W.mg_of X G a6, g_power_of T  F6, b6⟩
  have D7 : Dk l.prog w K mg base "divisor_sum" "divisor_sum" t_divisor_sum 5 ["number", "k"] (sp_divisor_sum K) := ⟨_, _, F7, PySem.W.mg_of X G a7, g_divisor_sum T D5 D6 F7, b7⟩
  have D8 : Dk l.prog w K mg base "two_less" "two_less" t_two_less 1 ["p"] (sp_two_less K) := ⟨_, _, F8, PySem.W.mg_of X G a8, g_two_less T  F8, b8⟩
  have D9 : Dk l.prog w K mg base "squares_rest" "squares_rest" t_squares_rest 2 ["p"] (sp_squares_rest K) := ⟨_, _, F9, PySem.W.mg_of X G a9, g_squares_rest T D8 F9, b9⟩
  have D10 : Dk l.prog w K mg base "two_less_is_prime" "two_less_is_prime" t_two_less_is_prime 4 ["p"] (sp_two_less_is_prime K) := ⟨_, _, F10, PySem.W.mg_of X G a10, g_two_less_is_prime T D4 D9 F10, b10⟩
  have D11 : Dk l.prog w K mg base "is_perfect" "is_perfect" t_is_perfect 6 ["number"] (sp_is_perfect K) := ⟨_, _, F11, PySem.W.mg_of X G a11, g_is_perfect T D7 F11, b11⟩
  have D12 : Dk l.prog w K mg base "even_perfect" "even_perfect" t_even_perfect 5 ["p"] (sp_even_perfect K) := ⟨_, _, F12, PySem.W.mg_of X G a12, g_even_perfect T D10 D8 F12, b12⟩
  have D13 : Dk l.prog w K mg base "perfect_exponent" "perfect_exponent" t_perfect_exponent 5 ["value"] (sp_perfect_exponent K) := ⟨_, _, F13, PySem.W.mg_of X G a13, g_perfect_exponent T D8 D10 F13, b13⟩
  have D14 : Dk l.prog w K mg base "perfect_paper" "perfect_paper" t_perfect_paper 6 ["number"] (sp_perfect_paper K) := ⟨_, _, F14, PySem.W.mg_of X G a14, g_perfect_paper T D13 D7 F14, b14⟩
  have D15 : Dk l.prog w K mg base "perfect_paper_error" "perfect_paper_error" t_perfect_paper_error 6 ["number", "value"] (sp_perfect_paper_error K) := ⟨_, _, F15, PySem.W.mg_of X G a15, g_perfect_paper_error T D0 D10 D12 D7 F15, b15⟩
  have D16 : Dk l.prog w K mg base "common_divisor" "common_divisor" t_common_divisor 1 ["one", "other"] (sp_common_divisor K) := ⟨_, _, F16, PySem.W.mg_of X G a16, g_common_divisor T  F16, b16⟩
  have D17 : Dk l.prog w K mg base "odd_parts" "odd_parts" t_odd_parts 5 ["number"] (sp_odd_parts K) := ⟨_, _, F17, PySem.W.mg_of X G a17, g_odd_parts T D5 D6 F17, b17⟩
  have D18 : Dk l.prog w K mg base "reach_of" "reach_of" t_reach_of 5 ["number"] (sp_reach_of K) := ⟨_, _, F18, PySem.W.mg_of X G a18, g_reach_of T D5 D16 F18, b18⟩
  have D19 : Dk l.prog w K mg base "odd_bar" "odd_bar" t_odd_bar 6 ["number"] (sp_odd_bar K) := ⟨_, _, F19, PySem.W.mg_of X G a19, g_odd_bar T D17 D5 D18 F19, b19⟩
  have D20 : Dk l.prog w K mg base "divisors_told" "divisors_told" t_divisors_told 5 ["number"] (sp_divisors_told K) := ⟨_, _, F20, PySem.W.mg_of X G a20, g_divisors_told T D5 F20, b20⟩
  have D21 : Dk l.prog w K mg base "excess_of" "excess_of" t_excess_of 6 ["number"] (sp_excess_of K) := ⟨_, _, F21, PySem.W.mg_of X G a21, g_excess_of T D20 F21, b21⟩
  have D22 : Dk l.prog w K mg base "kind_of" "kind_of" t_kind_of 7 ["number"] (sp_kind_of K) := ⟨_, _, F22, PySem.W.mg_of X G a22, g_kind_of T D21 F22, b22⟩
  have D23 : Dk l.prog w K mg base "first_divisor" "first_divisor" t_first_divisor 6 ["number"] (sp_first_divisor K) := ⟨_, _, F23, PySem.W.mg_of X G a23, g_first_divisor T D20 F23, b23⟩
  have D24 : Dk l.prog w K mg base "is_first_one" "is_first_one" t_is_first_one 7 ["number"] (sp_is_first_one K) := ⟨_, _, F24, PySem.W.mg_of X G a24, g_is_first_one T D23 F24, b24⟩
  have D25 : Dk l.prog w K mg base "fraction_of" "fraction_of" t_fraction_of 2 ["above", "below"] (sp_fraction_of K) := ⟨_, _, F25, PySem.W.mg_of X G a25, g_fraction_of T D16 F25, b25⟩
  have D26 : Dk l.prog w K mg base "share_of" "share_of" t_share_of 6 ["number"] (sp_share_of K) := ⟨_, _, F26, PySem.W.mg_of X G a26, g_share_of T D25 D7 F26, b26⟩
  have D27 : Dk l.prog w K mg base "often_as_much" "often_as_much" t_often_as_much 7 ["number"] (sp_often_as_much K) := ⟨_, _, F27, PySem.W.mg_of X G a27, g_often_as_much T D26 F27, b27⟩
  have D28 : Dk l.prog w K mg base "power_sum" "power_sum" t_power_sum 1 ["p", "often"] (sp_power_sum K) := ⟨_, _, F28, PySem.W.mg_of X G a28, g_power_sum T  F28, b28⟩
  have D29 : Dk l.prog w K mg base "prime_shares" "prime_shares" t_prime_shares 5 ["number"] (sp_prime_shares K) := ⟨_, _, F29, PySem.W.mg_of X G a29, g_prime_shares T D5 D25 D28 D6 F29, b29⟩
  have D30 : Dk l.prog w K mg base "are_friends" "are_friends" t_are_friends 7 ["one", "other"] (sp_are_friends K) := ⟨_, _, F30, PySem.W.mg_of X G a30, g_are_friends T D26 F30, b30⟩
  have D31 : Dk l.prog w K mg base "is_seen_alone" "is_seen_alone" t_is_seen_alone 6 ["number"] (sp_is_seen_alone K) := ⟨_, _, F31, PySem.W.mg_of X G a31, g_is_seen_alone T D16 D7 F31, b31⟩
  have D32 : Dk l.prog w K mg base "_law_of" "_law_of" t__law_of 1 ["pot", "many"] (sp__law_of K) := ⟨_, _, F32, PySem.W.mg_of X G a32, g__law_of T  F32, b32⟩
  have D33 : Dk l.prog w K mg base "_law_one" "_law_one" t__law_one 2 ["pot", "items"] (sp__law_one K) := ⟨_, _, F33, PySem.W.mg_of X G a33, g__law_one T D32 F33, b33⟩
  have D34 : Dk l.prog w K mg base "_law_one" "_law_one" t__law_one_b 2 ["pot", "items"] (sp__law_one_b K) := ⟨_, _, F34, PySem.W.mg_of X G a34, g__law_one_b T D32 F34, b34⟩
  have D35 : Dk l.prog w K mg base "_law_flat" "_law_flat" t__law_flat 1 ["rows"] (sp__law_flat K) := ⟨_, _, F35, PySem.W.mg_of X G a35, g__law_flat T  F35, b35⟩
  have D36 : Dk l.prog w K mg base "_law_common" "_law_common" t__law_common 1 ["a", "b"] (sp__law_common K) := ⟨_, _, F36, PySem.W.mg_of X G a36, g__law_common T  F36, b36⟩
  have D37 : Dk l.prog w K mg base "_law_made" "_law_made" t__law_made 2 ["above", "below"] (sp__law_made K) := ⟨_, _, F37, PySem.W.mg_of X G a37, g__law_made T D36 F37, b37⟩
  have D38 : Dk l.prog w K mg base "_law_raised" "_law_raised" t__law_raised 1 ["number", "often"] (sp__law_raised K) := ⟨_, _, F38, PySem.W.mg_of X G a38, g__law_raised T  F38, b38⟩
  have D39 : Dk l.prog w K mg base "_law_primes" "_law_primes" t__law_primes 1 ["number"] (sp__law_primes K) := ⟨_, _, F39, PySem.W.mg_of X G a39, g__law_primes T  F39, b39⟩
  have D40 : Dk l.prog w K mg base "_law_told_number" "_law_told_number" t__law_told_number 2 ["parting"] (sp__law_told_number K) := ⟨_, _, F40, PySem.W.mg_of X G a40, g__law_told_number T D38 F40, b40⟩
  have D41 : Dk l.prog w K mg base "_law_divisors" "_law_divisors" t__law_divisors 2 ["parting"] (sp__law_divisors K) := ⟨_, _, F41, PySem.W.mg_of X G a41, g__law_divisors T D38 D35 F41, b41⟩
  have D42 : Dk l.prog w K mg base "_law_sum" "_law_sum" t__law_sum 2 ["parting", "k"] (sp__law_sum K) := ⟨_, _, F42, PySem.W.mg_of X G a42, g__law_sum T D38 F42, b42⟩
  have D43 : Dk l.prog w K mg base "_law_parting_of" "_law_parting_of" t__law_parting_of 2 ["pot", "most"] (sp__law_parting_of K) := ⟨_, _, F43, PySem.W.mg_of X G a43, g__law_parting_of T D32 F43, b43⟩
  have D44 : Dk l.prog w K mg base "_law_small" "_law_small" t__law_small 3 ["pot"] (sp__law_small K) := ⟨_, _, F44, PySem.W.mg_of X G a44, g__law_small T D32 D33 D43 D40 D39 F44, b44⟩
  have D45 : Dk l.prog w K mg base "_law_are_known_right" "_law_are_known_right" t__law_are_known_right 8 ["pot"] (sp__law_are_known_right K) := ⟨_, _, F45, PySem.W.mg_of X G a45, g__law_are_known_right T D33 D12 D13 D22 D11 D26 D34 D30 F45, b45⟩
  have D46 : Dk l.prog w K mg base "_law_pot" "_law_pot" t__law_pot 1 ["script"] (sp__law_pot K) := ⟨_, _, F46, PySem.W.mg_of X G a46, g__law_pot T  F46, b46⟩
  exact g_law T D46 D44 D33 D39 D42 D37 D22 D21 D26 D27 D11 D7 D29 D31 D36 D41 D23 D24 D13 D14 D15 D12 D18 D19 D45 F47
theorem walk_law {l : PySem.W.OpenLaw} {q : Program} {loose : List Str} {XP : (Str → Option Value) → Heap → Prop} {YP : World → Heap → Prop} {d : DefRec} {K : Params → PySem.W.Frag} (main : ∀ ns : List Int, ns.length ≤ 63 → (∀ i ∈ ns, Builtin.Int.intBits i ≤ 1048576) → okLaw ns) (hn : l.most = some 63) (hdf : d.params.defaults = [])
    (hY : ∀ (w : World) (h : Heap), YP w h → (K w.params).In h)
    (F : ∀ (w : World) (mg : Str → Option Value) (fa : Addr) (h : Heap), (K w.params).In h → h.Ns mainGlobals mg → mg d.name = some (.ref fa) →
      ∃ fd : FuncData, (∀ (s : Shared) (u : Value), BindsTo s fd ⟨[u], []⟩ [("script", u)]) ∧ ∀ base : Heap, (K w.params).In base → base.Ns mainGlobals mg → base.NoDigits → FnG l.prog w (K w.params) mg base CX0 9 fa fd ["script"] (spLaw (K w.params) okLaw)) :
    PySem.W.WalkO q loose XP YP l.row.toRowW d [] (fun f vs => PySem.call f vs) :=
  walk_G (n := 63) (k := 9) (x := "script") (CX := CX0) (sp := fun K => spLaw K okLaw) hn (by decide) hdf ⟨rfl, by decide, by decide⟩ hY F (fun K H a ns hl hb hS => ⟨ns, ⟨.ref a, rfl, a, rfl, hS⟩, main ns hl hb, fun _ => rfl⟩) fun _ _ _ _ z => z
end Wk
open PySem PySem.W PyProof.Rows in
set_option maxRecDepth 100000 in
set_option maxHeartbeats 0 in
theorem PySem.Challenge.cw_divisorways_k87_whole_perfect_and_kinds_holds : PySem.Challenge.rw_divisorways_k87_whole_perfect_and_kinds.Holds := by
  w_on; o_law; k_head; (case hw => w_witness2)
  k_fill
  refine Wk.walk_law (l := PySem.Challenge.rw_divisorways_k87_whole_perfect_and_kinds) Wk.main_law rfl rfl (fun w h Y => PySem.W.kIn_of Y) ?F
  case F =>
    intro w mg fa h KX G hmg
    refine' Wk.all_mk KX G hmg ?a0 ?l0 ?c0 ?k0 ?a1 ?l1 ?c1 ?k1 ?a2 ?l2 ?c2 ?k2 ?a3 ?l3 ?c3 ?k3 ?a4 ?l4 ?c4 ?k4 ?a5 ?l5 ?c5 ?k5 ?a6 ?l6 ?c6 ?k6 ?a7 ?l7 ?c7 ?k7 ?a8 ?l8 ?c8 ?k8 ?a9 ?l9 ?c9 ?k9 ?a10 ?l10 ?c10 ?k10 ?a11 ?l11 ?c11 ?k11 ?a12 ?l12 ?c12 ?k12 ?a13 ?l13 ?c13 ?k13 ?a14 ?l14 ?c14 ?k14 ?a15 ?l15 ?c15 ?k15 ?a16 ?l16 ?c16 ?k16 ?a17 ?l17 ?c17 ?k17 ?a18 ?l18 ?c18 ?k18 ?a19 ?l19 ?c19 ?k19 ?a20 ?l20 ?c20 ?k20 ?a21 ?l21 ?c21 ?k21 ?a22 ?l22 ?c22 ?k22 ?a23 ?l23 ?c23 ?k23 ?a24 ?l24 ?c24 ?k24 ?a25 ?l25 ?c25 ?k25 ?a26 ?l26 ?c26 ?k26 ?a27 ?l27 ?c27 ?k27 ?a28 ?l28 ?c28 ?k28 ?a29 ?l29 ?c29 ?k29 ?a30 ?l30 ?c30 ?k30 ?a31 ?l31 ?c31 ?k31 ?a32 ?l32 ?c32 ?k32 ?a33 ?l33 ?c33 ?k33 ?a34 ?l34 ?c34 ?k34 ?a35 ?l35 ?c35 ?k35 ?a36 ?l36 ?c36 ?k36 ?a37 ?l37 ?c37 ?k37 ?a38 ?l38 ?c38 ?k38 ?a39 ?l39 ?c39 ?k39 ?a40 ?l40 ?c40 ?k40 ?a41 ?l41 ?c41 ?k41 ?a42 ?l42 ?c42 ?k42 ?a43 ?l43 ?c43 ?k43 ?a44 ?l44 ?c44 ?k44 ?a45 ?l45 ?c45 ?k45 ?a46 ?l46 ?c46 ?k46 ?a47 ?l47 ?c47 ?k47 ?z0 ?z1 ?z2 ?z3 ?z4 ?z5 ?z6 ?z7 ?z8 ?z9 ?z10 ?z11 ?z12 ?y0
    (case a0 => k_is)
    (case l0 => k_is)
    (case c0 => k_is)
    (case k0 => k_is)
    (case a1 => k_is)
    (case l1 => k_is)
    (case c1 => k_is)
    (case k1 => k_is)
    (case a2 => k_is)
    (case l2 => k_is)
    (case c2 => k_is)
    (case k2 => k_is)
    (case a3 => k_is)
    (case l3 => k_is)
    (case c3 => k_is)
    (case k3 => k_is)
    (case a4 => k_is)
    (case l4 => k_is)
    (case c4 => k_is)
    (case k4 => k_is)
    (case a5 => k_is)
    (case l5 => k_is)
    (case c5 => k_is)
    (case k5 => k_is)
    (case a6 => k_is)
    (case l6 => k_is)
    (case c6 => k_is)
    (case k6 => k_is)
    (case a7 => k_is)
    (case l7 => k_is)
    (case c7 => k_is)
    (case k7 => k_is)
    (case a8 => k_is)
    (case l8 => k_is)
    (case c8 => k_is)
    (case k8 => k_is)
    (case a9 => k_is)
    (case l9 => k_is)
    (case c9 => k_is)
    (case k9 => k_is)
    (case a10 => k_is)
    (case l10 => k_is)
    (case c10 => k_is)
    (case k10 => k_is)
    (case a11 => k_is)
    (case l11 => k_is)
    (case c11 => k_is)
    (case k11 => k_is)
    (case a12 => k_is)
    (case l12 => k_is)
    (case c12 => k_is)
    (case k12 => k_is)
    (case a13 => k_is)
    (case l13 => k_is)
    (case c13 => k_is)
    (case k13 => k_is)
    (case a14 => k_is)
    (case l14 => k_is)
    (case c14 => k_is)
    (case k14 => k_is)
    (case a15 => k_is)
    (case l15 => k_is)
    (case c15 => k_is)
    (case k15 => k_is)
    (case a16 => k_is)
    (case l16 => k_is)
    (case c16 => k_is)
    (case k16 => k_is)
    (case a17 => k_is)
    (case l17 => k_is)
    (case c17 => k_is)
    (case k17 => k_is)
    (case a18 => k_is)
    (case l18 => k_is)
    (case c18 => k_is)
    (case k18 => k_is)
    (case a19 => k_is)
    (case l19 => k_is)
    (case c19 => k_is)
    (case k19 => k_is)
    (case a20 => k_is)
    (case l20 => k_is)
    (case c20 => k_is)
    (case k20 => k_is)
    (case a21 => k_is)
    (case l21 => k_is)
    (case c21 => k_is)
    (case k21 => k_is)
    (case a22 => k_is)
    (case l22 => k_is)
    (case c22 => k_is)
    (case k22 => k_is)
    (case a23 => k_is)
    (case l23 => k_is)
    (case c23 => k_is)
    (case k23 => k_is)
    (case a24 => k_is)
    (case l24 => k_is)
    (case c24 => k_is)
    (case k24 => k_is)
    (case a25 => k_is)
    (case l25 => k_is)
    (case c25 => k_is)
    (case k25 => k_is)
    (case a26 => k_is)
    (case l26 => k_is)
    (case c26 => k_is)
    (case k26 => k_is)
    (case a27 => k_is)
    (case l27 => k_is)
    (case c27 => k_is)
    (case k27 => k_is)
    (case a28 => k_is)
    (case l28 => k_is)
    (case c28 => k_is)
    (case k28 => k_is)
    (case a29 => k_is)
    (case l29 => k_is)
    (case c29 => k_is)
    (case k29 => k_is)
    (case a30 => k_is)
    (case l30 => k_is)
    (case c30 => k_is)
    (case k30 => k_is)
    (case a31 => k_is)
    (case l31 => k_is)
    (case c31 => k_is)
    (case k31 => k_is)
    (case a32 => k_is)
    (case l32 => k_is)
    (case c32 => k_is)
    (case k32 => k_is)
    (case a33 => k_is)
    (case l33 => k_is)
    (case c33 => k_is)
    (case k33 => k_is)
    (case a34 => k_is)
    (case l34 => k_is)
    (case c34 => k_is)
    (case k34 => k_is)
    (case a35 => k_is)
    (case l35 => k_is)
    (case c35 => k_is)
    (case k35 => k_is)
    (case a36 => k_is)
    (case l36 => k_is)
    (case c36 => k_is)
    (case k36 => k_is)
    (case a37 => k_is)
    (case l37 => k_is)
    (case c37 => k_is)
    (case k37 => k_is)
    (case a38 => k_is)
    (case l38 => k_is)
    (case c38 => k_is)
    (case k38 => k_is)
    (case a39 => k_is)
    (case l39 => k_is)
    (case c39 => k_is)
    (case k39 => k_is)
    (case a40 => k_is)
    (case l40 => k_is)
    (case c40 => k_is)
    (case k40 => k_is)
    (case a41 => k_is)
    (case l41 => k_is)
    (case c41 => k_is)
    (case k41 => k_is)
    (case a42 => k_is)
    (case l42 => k_is)
    (case c42 => k_is)
    (case k42 => k_is)
    (case a43 => k_is)
    (case l43 => k_is)
    (case c43 => k_is)
    (case k43 => k_is)
    (case a44 => k_is)
    (case l44 => k_is)
    (case c44 => k_is)
    (case k44 => k_is)
    (case a45 => k_is)
    (case l45 => k_is)
    (case c45 => k_is)
    (case k45 => k_is)
    (case a46 => k_is)
    (case l46 => k_is)
    (case c46 => k_is)
    (case k46 => k_is)
    (case a47 => k_is)
    (case l47 => k_is)
    (case c47 => k_is)
    (case k47 => k_is)
    (case z0 => k_is)
    (case z1 => k_is)
    (case z2 => k_is)
    (case z3 => k_is)
    (case z4 => k_is)
    (case z5 => k_is)
    (case z6 => k_is)
    (case z7 => k_is)
    (case z8 => k_is)
    (case z9 => k_is)
    (case z10 => k_is)
    (case z11 => k_is)
    (case z12 => k_is)
    (case y0 => k_is)
