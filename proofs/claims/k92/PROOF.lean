import PyProof.Rows.All
import Wide.All
import OpenK.AllK
import Wide.FinOn
import HandS.ForMost
import HandS.Wide
import HandS.WideBits
import HandS.Style
import HandS.EndBits
import PyProof.ReprRoads
import PyProof.ReprLen
import PyProof.StrLawsRepr
import PyProof.FitsInt
import HandS.More
import HandS.SortInts
import HandS.SortRule
import HandS.Zip
import KE.GoesEnum
import HandS.IsInst
import HandS.TupAny
import HandS.Deep
import HandS.SetFor
import HandS.Dict
import HandS.Strs
import PySem.Challenge.RW_divisorways_k92_whole_roots_and_counts
set_option Elab.async false
set_option maxRecDepth 100000
set_option maxHeartbeats 4000000
set_option linter.all false
/-! W0: worlds, the mirror's monads, the judgement of an expression and its mirror in lockstep -/
namespace Wk
open PySem L2
open PyProof.Rows hiding St

/-! ### heaps -/
def Ex (S H : Hp) : Prop := ∀ a o, S a = some o → H a = some o
theorem Ex.rf {S : Hp} : Ex S S := fun _ _ h => h
theorem Ex.tr {S H K : Hp} (a : Ex S H) (b : Ex H K) : Ex S K := fun x o h => b x o (a x o h)
theorem Ex.no {S H : Hp} (e : Ex S H) {a : Addr} (h : H a = none) : S a = none := by
  cases q : S a with
  | none => rfl
  | some o => rw [e a o q] at h; cases h
structure Gm (M : List Addr) (S H S' H' : Hp) : Prop where
  s : Ex S S'
  i : Ex S' H'
  h : ∀ a o, a ∉ M → H a = some o → H' a = some o
  f : ∀ a o, H a = some o → S a = none → S' a = none
  t : ∀ a o, H a = some o → ∃ u, H' a = some u
theorem Gm.rf {M : List Addr} {S H : Hp} (e : Ex S H) : Gm M S H S H := ⟨Ex.rf, e, fun _ _ _ h => h, fun _ _ _ h => h, fun _ o h => ⟨o, h⟩⟩
theorem Gm.tr {M : List Addr} {S H S1 H1 S2 H2 : Hp} (a : Gm M S H S1 H1) (b : Gm M S1 H1 S2 H2) : Gm M S H S2 H2 :=
  ⟨a.s.tr b.s, b.i, fun x o m h => b.h x o m (a.h x o m h), fun x o h n => let ⟨u, q⟩ := a.t x o h; b.f x u q (a.f x o h n), fun x o h => let ⟨u, q⟩ := a.t x o h; b.t x u q⟩
theorem Gm.up {M : List Addr} {S H S1 H1 : Hp} (a : Gm [] S H S1 H1) : Gm M S H S1 H1 := ⟨a.s, a.i, fun x o _ h => a.h x o (by simp) h, a.f, a.t⟩
/-- a new object that stays as it is -/
theorem Gm.new {M : List Addr} {S H : Hp} {p : Addr} {o : HO} (e : Ex S H) (n : H p = none) : Gm M S H (upd S p o) (upd H p o) := by
  have ns := e.no n
  refine ⟨fun a u h => ?_, fun a u h => ?_, fun a u _ h => ?_, fun a u h m => ?_, fun a u h => ⟨u, ?_⟩⟩
  · rw [upd_ne (ne_of_none h ns)]; exact h
  · by_cases q : a = p
    · subst q; rw [upd_same] at h ⊢; exact h
    · rw [upd_ne q] at h ⊢; exact e a u h
  · rw [upd_ne (ne_of_none h n)]; exact h
  · rw [upd_ne (ne_of_none h n)]; exact m
  · rw [upd_ne (ne_of_none h n)]; exact h
/-- a new object that may change -/
theorem Gm.own {M : List Addr} {S H : Hp} {p : Addr} {o : HO} (e : Ex S H) (n : H p = none) : Gm M S H S (upd H p o) := by
  refine ⟨Ex.rf, fun a u h => ?_, fun a u _ h => ?_, fun a u h m => m, fun a u h => ⟨u, ?_⟩⟩
  · rw [upd_ne (ne_of_none (e a u h) n)]; exact e a u h
  · rw [upd_ne (ne_of_none h n)]; exact h
  · rw [upd_ne (ne_of_none h n)]; exact h

/-! ### what changes beside: a lot of cells -/
structure Pt (τ : Type) where
  M : List Addr
  cells : τ → List (Addr × HO)
  adr : ∀ s, (cells s).map (·.1) = M
  nd : M.Nodup
def pt0 : Pt Unit := ⟨[], fun _ => [], fun _ => rfl, List.nodup_nil⟩
def PotAt {τ : Type} (p : Pt τ) (s : τ) (S H : Hp) : Prop := ∀ c ∈ p.cells s, H c.1 = some c.2 ∧ S c.1 = none
theorem pot0 {S H : Hp} : PotAt pt0 () S H := fun _ h => nomatch h
theorem PotAt.go {τ : Type} {p : Pt τ} {s : τ} {S H S1 H1 : Hp} (a : PotAt p s S H) (g : Gm [] S H S1 H1) : PotAt p s S1 H1 := fun c hc =>
  ⟨g.h _ _ (by simp) (a c hc).1, g.f _ _ (a c hc).1 (a c hc).2⟩

/-! ### the mirror's monads -/
class Mir (μ : Type → Type) (τ : outParam Type) extends Monad μ where
  run : {α : Type} → μ α → τ → Option (α × τ)
  run_pure : ∀ {α : Type} (a : α) (s : τ), run (pure a : μ α) s = some (a, s)
  run_bind : ∀ {α β : Type} (m : μ α) (k : α → μ β) (s : τ), run (m >>= k) s = (run m s).bind fun z => run (k z.1) z.2
  lft : {α : Type} → Option α → μ α
  run_lft : ∀ {α : Type} (o : Option α) (s : τ), run (lft o : μ α) s = o.map fun a => (a, s)
instance : Mir Option Unit where
  run o _ := o.map fun a => (a, ())
  run_pure _ _ := rfl
  run_bind m k s := by cases m <;> rfl
  lft o := o
  run_lft _ _ := rfl
def PM (τ α : Type) : Type := τ → Option (α × τ)
instance (τ : Type) : Monad (PM τ) where
  pure a := fun s => some (a, s)
  bind m k := fun s => (m s).bind fun z => k z.1 z.2
instance (τ : Type) : Mir (PM τ) τ where
  run m s := m s
  run_pure _ _ := rfl
  run_bind _ _ _ := rfl
  lft o := fun s => o.map fun a => (a, s)
  run_lft _ _ := rfl
/-- a name for a value -/
def bnd {α β : Type} (a : α) (k : α → β) : β := k a
/-- a condition that must hold -/
def grd (c : Prop) [Decidable c] : Option Unit := if c then some () else none
section
variable {μ : Type → Type} {τ : Type} [Mir μ τ] {α β : Type}
theorem run_of_bind {m : μ α} {k : α → μ β} {s : τ} {z : β × τ} (h : Mir.run (m >>= k) s = some z) : ∃ a s1, Mir.run m s = some (a, s1) ∧ Mir.run (k a) s1 = some z := by
  rw [Mir.run_bind] at h
  cases e : Mir.run m s with
  | none => rw [e] at h; cases h
  | some y => rw [e] at h; exact ⟨y.1, y.2, rfl, h⟩
theorem run_of_lft {o : Option α} {k : α → μ β} {s : τ} {z : β × τ} (h : Mir.run (Mir.lft o >>= k) s = some z) : ∃ a, o = some a ∧ Mir.run (k a) s = some z := by
  obtain ⟨a, s1, h1, h2⟩ := run_of_bind h
  rw [Mir.run_lft] at h1
  cases e : o with
  | none => rw [e] at h1; cases h1
  | some y =>
    rw [e] at h1
    have q : (y, s) = (a, s1) := Option.some.inj h1
    cases q
    exact ⟨_, rfl, h2⟩
theorem run_of_pure {a : α} {s : τ} {z : α × τ} (h : Mir.run (pure a : μ α) s = some z) : z = (a, s) := by
  rw [Mir.run_pure] at h
  exact (Option.some.inj h).symm
theorem run_of_pureB {a : α} {k : α → μ β} {s : τ} {z : β × τ} (h : Mir.run (pure a >>= k) s = some z) : Mir.run (k a) s = some z := by
  obtain ⟨b, s1, h1, h2⟩ := run_of_bind h
  cases run_of_pure h1
  exact h2
theorem grd_of {c : Prop} [Decidable c] {u : Unit} (h : grd c = some u) : c := by
  unfold grd at h
  split at h
  · assumption
  · cases h
end

/-! ### what stands for what -/
abbrev Rp (α : Type) := α → V → Hp → Prop
abbrev Rq (α : Type) := α → List V → Hp → Prop
class Mo {α β : Type} (R : α → β → Hp → Prop) : Prop where
  mo : ∀ {a : α} {v : β} {S S' : Hp}, Ex S S' → R a v S → R a v S'
def rI : Rp Int := fun a v _ => v = .int a
def rB : Rp Bool := fun a v _ => v = .bl a
def rS : Rp Str := fun a v _ => v = .str a
def rN : Rp Unit := fun _ v _ => v = .non
instance : Mo rI := ⟨fun _ h => h⟩
instance : Mo rB := ⟨fun _ h => h⟩
instance : Mo rS := ⟨fun _ h => h⟩
instance : Mo rN := ⟨fun _ h => h⟩
/-- None or a value -/
def rO {α : Type} (R : Rp α) : Rp (Option α) := fun a v S => match a with | none => v = .non | some x => R x v S
instance {α : Type} (R : Rp α) [Mo R] : Mo (rO R) := ⟨fun {a v S S'} e h => by
  cases a with
  | none => exact h
  | some x => exact Mo.mo (R := R) e h⟩
/-- one or the other -/
def rU {α β : Type} (R : Rp α) (R' : Rp β) : Rp (α ⊕ β) := fun a v S => match a with | .inl x => R x v S | .inr y => R' y v S
instance {α β : Type} (R : Rp α) (R' : Rp β) [Mo R] [Mo R'] : Mo (rU R R') := ⟨fun {a v S S'} e h => by
  cases a with
  | inl x => exact Mo.mo (R := R) e h
  | inr x => exact Mo.mo (R := R') e h⟩
def aNil : Rq Unit := fun _ vs _ => vs = []
def aOne {α : Type} (R : Rp α) : Rq α := fun a vs S => ∃ v, vs = [v] ∧ R a v S
def aCons {α β : Type} (R : Rp α) (A : Rq β) : Rq (α × β) := fun a vs S => ∃ v r, vs = v :: r ∧ R a.1 v S ∧ A a.2 r S
inductive All {α : Type} (R : Rp α) (S : Hp) : List α → List V → Prop
  | nil : All R S [] []
  | cons {a : α} {as : List α} {v : V} {vs : List V} : R a v S → All R S as vs → All R S (a :: as) (v :: vs)
def aAll {α : Type} (R : Rp α) : Rq (List α) := fun xs vs S => All R S xs vs
instance : Mo aNil := ⟨fun _ h => h⟩
instance {α : Type} (R : Rp α) [Mo R] : Mo (aOne R) := ⟨fun e ⟨v, h1, h2⟩ => ⟨v, h1, Mo.mo e h2⟩⟩
instance {α β : Type} (R : Rp α) (A : Rq β) [Mo R] [Mo A] : Mo (aCons R A) := ⟨fun e ⟨v, r, h1, h2, h3⟩ => ⟨v, r, h1, Mo.mo e h2, Mo.mo e h3⟩⟩
theorem All.mo {α : Type} {R : Rp α} [Mo R] {S S' : Hp} (e : Ex S S') : ∀ {xs : List α} {vs : List V}, All R S xs vs → All R S' xs vs
  | _, _, .nil => .nil
  | _, _, .cons h t => .cons (Mo.mo e h) (t.mo e)
instance {α : Type} (R : Rp α) [Mo R] : Mo (aAll R) := ⟨fun e h => All.mo e h⟩
theorem All.len {α : Type} {R : Rp α} {S : Hp} : ∀ {xs : List α} {vs : List V}, All R S xs vs → xs.length = vs.length
  | _, _, .nil => rfl
  | _, _, .cons _ t => by simp [t.len]
theorem All.get {α : Type} {R : Rp α} {S : Hp} : ∀ {xs : List α} {vs : List V} {i : Nat} {x : α}, All R S xs vs → xs[i]? = some x → ∃ v, vs[i]? = some v ∧ R x v S
  | _, _, _, _, .nil, e => by simp at e
  | _, _, 0, _, .cons h _, e => by simp at e; subst e; exact ⟨_, rfl, h⟩
  | _, _, i + 1, x, .cons _ t, e => by
    obtain ⟨v, h1, h2⟩ := t.get (i := i) (x := x) (by simpa using e)
    exact ⟨v, by simpa using h1, h2⟩
theorem All.app {α : Type} {R : Rp α} {S : Hp} : ∀ {xs ys : List α} {vs us : List V}, All R S xs vs → All R S ys us → All R S (xs ++ ys) (vs ++ us)
  | _, _, _, _, .nil, h => h
  | _, _, _, _, .cons h t, g => .cons h (t.app g)
theorem All.take {α : Type} {R : Rp α} {S : Hp} : ∀ {xs : List α} {vs : List V} (n : Nat), All R S xs vs → All R S (xs.take n) (vs.take n)
  | _, _, 0, _ => .nil
  | _, _, _ + 1, .nil => .nil
  | _, _, n + 1, .cons h t => .cons h (t.take n)
theorem All.drop {α : Type} {R : Rp α} {S : Hp} : ∀ {xs : List α} {vs : List V} (n : Nat), All R S xs vs → All R S (xs.drop n) (vs.drop n)
  | _, _, 0, h => h
  | _, _, _ + 1, .nil => .nil
  | _, _, n + 1, .cons _ t => t.drop n
theorem All.set {α : Type} {R : Rp α} {S : Hp} {x : α} {v : V} (h : R x v S) : ∀ {xs : List α} {vs : List V} (n : Nat), All R S xs vs → All R S (xs.set n x) (vs.set n v)
  | _, _, _, .nil => .nil
  | _, _, 0, .cons _ t => .cons h t
  | _, _, n + 1, .cons g t => .cons g (t.set h n)
theorem All.ints {S : Hp} : ∀ {xs : List Int} {vs : List V}, All rI S xs vs → vs = xs.map V.int
  | _, _, .nil => rfl
  | _, _, .cons h t => by rw [t.ints, show _ = V.int _ from h]; rfl
theorem All.ofInts {S : Hp} : ∀ xs : List Int, All rI S xs (xs.map V.int)
  | [] => .nil
  | x :: xs => .cons rfl (All.ofInts xs)
theorem All.bools {S : Hp} : ∀ {xs : List Bool} {vs : List V}, All rB S xs vs → vs = xs.map V.bl
  | _, _, .nil => rfl
  | _, _, .cons h t => by rw [t.bools, show _ = V.bl _ from h]; rfl
/-- a tuple, a list that stays -/
def rT {α : Type} (K : PySem.W.Frag) (A : Rq α) : Rp α := fun a v S => ∃ p vs, v = .ref p ∧ SqT K S p vs ∧ A a vs S
def rL {α : Type} (A : Rq α) : Rp α := fun a v S => ∃ p vs, v = .ref p ∧ S p = some (.lst vs) ∧ A a vs S
theorem rd_ex {S S' : Hp} (e : Ex S S') {a : Addr} {u : HO} (h : Rd S a u) : Rd S' a u := by
  rcases h with h | ⟨o, h⟩
  · exact .inl (e _ _ h)
  · exact .inr ⟨o, e _ _ h⟩
theorem sqT_ex {K : PySem.W.Frag} {S S' : Hp} (e : Ex S S') {a : Addr} {xs : List V} (h : SqT K S a xs) : SqT K S' a xs := by
  rcases h with h | h
  · exact .inl (rd_ex e h)
  · exact .inr h
theorem sqL_ex {K : PySem.W.Frag} {S S' : Hp} (e : Ex S S') {a : Addr} {xs : List V} (h : SqL K S a xs) : SqL K S' a xs := by
  rcases h with h | h
  · exact .inl (rd_ex e h)
  · exact .inr h
instance {α : Type} (K : PySem.W.Frag) (A : Rq α) [Mo A] : Mo (rT K A) := ⟨fun e ⟨p, vs, h1, h2, h3⟩ => ⟨p, vs, h1, sqT_ex e h2, Mo.mo e h3⟩⟩
instance {α : Type} (A : Rq α) [Mo A] : Mo (rL A) := ⟨fun e ⟨p, vs, h1, h2, h3⟩ => ⟨p, vs, h1, e _ _ h2, Mo.mo e h3⟩⟩

/-! ### the judgements: the program's reading and the mirror go in lockstep -/
section
variable {μ : Type → Type} {τ : Type} [Mir μ τ] {α β γ δ : Type}
def Ev (p : Pt τ) (te : TE) (σ : St) (S H : Hp) (m : (α → μ β) → μ β) (R : Rp α) : Prop :=
  ∀ S1 H1 s, Gm p.M S H S1 H1 → PotAt p s S1 H1 → ∀ (k : α → μ β) z, Mir.run (m k) s = some z → ∀ Q : VK,
    (∀ a v S2 H2 s2, Gm p.M S1 H1 S2 H2 → PotAt p s2 S2 H2 → R a v S2 → Mir.run (k a) s2 = some z → Q v H2) → te σ H1 Q
/-- a new list -/
def EvL (p : Pt τ) (te : TE) (σ : St) (S H : Hp) (m : (α → μ β) → μ β) (A : Rq α) : Prop :=
  ∀ S1 H1 s, Gm p.M S H S1 H1 → PotAt p s S1 H1 → ∀ (k : α → μ β) z, Mir.run (m k) s = some z → ∀ Q : VK,
    (∀ a q vs S2 H2 s2, Gm p.M S1 H1 S2 H2 → PotAt p s2 S2 H2 → H1 q = none → H2 q = some (.lst vs) → S2 q = none → q ∉ p.M → A a vs S2 → Mir.run (k a) s2 = some z → Q (.ref q) H2) → te σ H1 Q
/-- a list that can be read -/
def EvR (p : Pt τ) (te : TE) (σ : St) (S H : Hp) (m : (α → μ β) → μ β) (A : Rq α) : Prop :=
  ∀ S1 H1 s, Gm p.M S H S1 H1 → PotAt p s S1 H1 → ∀ (k : α → μ β) z, Mir.run (m k) s = some z → ∀ Q : VK,
    (∀ a q vs S2 H2 s2, Gm p.M S1 H1 S2 H2 → PotAt p s2 S2 H2 → H2 q = some (.lst vs) → q ∉ p.M → A a vs S2 → Mir.run (k a) s2 = some z → Q (.ref q) H2) → te σ H1 Q
def EvT (p : Pt τ) (tt : TT) (σ : St) (S H : Hp) (m : (Bool → μ β) → μ β) : Prop :=
  ∀ S1 H1 s, Gm p.M S H S1 H1 → PotAt p s S1 H1 → ∀ (k : Bool → μ β) z, Mir.run (m k) s = some z → ∀ Q : Bool → Hp → Prop,
    (∀ b S2 H2 s2, Gm p.M S1 H1 S2 H2 → PotAt p s2 S2 H2 → Mir.run (k b) s2 = some z → Q b H2) → tt σ H1 Q
def EvA (p : Pt τ) (ta : TA) (σ : St) (S H : Hp) (m : (α → μ β) → μ β) (A : Rq α) : Prop :=
  ∀ S1 H1 s, Gm p.M S H S1 H1 → PotAt p s S1 H1 → ∀ (k : α → μ β) z, Mir.run (m k) s = some z → ∀ Q : List V → Hp → Prop,
    (∀ a vs S2 H2 s2, Gm p.M S1 H1 S2 H2 → PotAt p s2 S2 H2 → A a vs S2 → Mir.run (k a) s2 = some z → Q vs H2) → ta σ H1 Q
variable {p : Pt τ} {σ : St} {S H : Hp} {te ta tb : TE} {tt tu : TT}
theorem Ev.go {m : (α → μ β) → μ β} {R : Rp α} {S1 H1 : Hp} (h : Ev p te σ S H m R) (g : Gm p.M S H S1 H1) : Ev p te σ S1 H1 m R :=
  fun S2 H2 s g2 ps => h S2 H2 s (g.tr g2) ps

theorem e_var {i : Nat} {a : α} {v : V} {R : Rp α} [Mo R] (e : σ[i]? = some (some v)) (r : R a v S) : Ev (μ := μ) (β := β) p (tVar i) σ S H (fun k => k a) R :=
  fun _ _ _ g ps _ _ hm _ q => ⟨v, e, q _ _ _ _ _ (Gm.rf g.i) ps (Mo.mo g.s r) hm⟩
theorem e_cI {i : Int} : Ev (μ := μ) (β := β) p (tC (.int i)) σ S H (fun k => k i) rI := fun _ _ _ g ps _ _ hm _ q => q _ _ _ _ _ (Gm.rf g.i) ps rfl hm
theorem e_cB {b : Bool} : Ev (μ := μ) (β := β) p (tC (.bl b)) σ S H (fun k => k b) rB := fun _ _ _ g ps _ _ hm _ q => q _ _ _ _ _ (Gm.rf g.i) ps rfl hm
theorem e_cS {x : Str} : Ev (μ := μ) (β := β) p (tC (.str x)) σ S H (fun k => k x) rS := fun _ _ _ g ps _ _ hm _ q => q _ _ _ _ _ (Gm.rf g.i) ps rfl hm
theorem e_cN : Ev (μ := μ) (β := β) p (tC .non) σ S H (fun k => k ()) rN := fun _ _ _ g ps _ _ hm _ q => q _ _ _ _ _ (Gm.rf g.i) ps rfl hm
/-- a value is also one of more kinds -/
theorem Ev.map {m : (α → μ β) → μ β} {R : Rp α} {R' : Rp γ} (f : α → γ) (h : Ev p te σ S H m R) (hr : ∀ a v S, R a v S → R' (f a) v S) : Ev p te σ S H (fun k => m fun a => k (f a)) R' :=
  fun S1 H1 s g ps k z hm Q q => h S1 H1 s g ps _ z hm Q fun a v S2 H2 s2 g2 p2 r hm2 => q _ v S2 H2 s2 g2 p2 (hr _ _ _ r) hm2
theorem Ev.some {m : (α → μ β) → μ β} {R : Rp α} (h : Ev p te σ S H m R) : Ev p te σ S H (fun k => m fun a => k (Option.some a)) (rO R) := h.map Option.some fun _ _ _ r => r
theorem Ev.none {m : (Unit → μ β) → μ β} {R : Rp α} (h : Ev p te σ S H m rN) : Ev p te σ S H (fun k => m fun _ => k Option.none) (rO R) := h.map (fun _ => Option.none) fun _ _ _ r => r
theorem Ev.inl {m : (α → μ β) → μ β} {R : Rp α} {R' : Rp γ} (h : Ev p te σ S H m R) : Ev p te σ S H (fun k => m fun a => k (Sum.inl a)) (rU R R') := h.map Sum.inl fun _ _ _ r => r
theorem Ev.inr {m : (α → μ β) → μ β} {R : Rp α} {R' : Rp γ} (h : Ev p te σ S H m R) : Ev p te σ S H (fun k => m fun a => k (Sum.inr a)) (rU R' R) := h.map Sum.inr fun _ _ _ r => r

/-! operators of two ints -/
theorem e_op {r : R2} {mA mB : (Int → μ β) → μ β} {f : Int → Int → (γ → μ β) → μ β} {R : Rp γ} (ha : Ev p ta σ S H mA rI) (hb : Ev p tb σ S H mB rI)
    (hr : ∀ i j H1 S1 s, Ex S1 H1 → ∀ (k : γ → μ β) z, Mir.run (f i j k) s = some z → ∀ Q : VK, (∀ c v, R c v S1 → Mir.run (k c) s = some z → Q v H1) → r (.int i) (.int j) H1 Q) :
    Ev p (tOp r ta tb) σ S H (fun k => mA fun i => mB fun j => f i j k) R := fun S1 H1 s g ps k z hm Q q =>
  ha S1 H1 s g ps _ z hm _ fun i v S2 H2 s2 g2 p2 r2 hm2 => hb S2 H2 s2 (g.tr g2) p2 _ z hm2 _ fun j u S3 H3 s3 g3 p3 r3 hm3 => by
    cases (show v = .int i from r2)
    cases (show u = .int j from r3)
    exact hr i j H3 S3 s3 g3.i k z hm3 Q fun c w rc hk => q c w S3 H3 s3 (g2.tr g3) p3 rc hk
/-- a total operator -/
theorem e_op0 {C : Int → Int → V} {D : Int → Int → γ} {mA mB : (Int → μ β) → μ β} {R : Rp γ} (ha : Ev p ta σ S H mA rI) (hb : Ev p tb σ S H mB rI) (hR : ∀ i j S, R (D i j) (C i j) S) :
    Ev p (tOp (rI0 C) ta tb) σ S H (fun k => mA fun i => mB fun j => k (D i j)) R :=
  e_op (f := fun i j k => k (D i j)) ha hb fun i j _ S1 s _ k z hm Q q => ⟨i, j, rfl, rfl, q _ _ (hR i j S1) hm⟩
/-- one with a condition -/
theorem e_opC {P : Int → Int → Prop} {C : Int → Int → V} {D : Int → Int → γ} {c : Int → Int → Prop} [∀ i j, Decidable (c i j)] {mA mB : (Int → μ β) → μ β} {R : Rp γ} (ha : Ev p ta σ S H mA rI) (hb : Ev p tb σ S H mB rI)
    (hc : ∀ i j, c i j → P i j) (hR : ∀ i j S, c i j → R (D i j) (C i j) S) :
    Ev p (tOp (L2.rI P C) ta tb) σ S H (fun k => mA fun i => mB fun j => Mir.lft (grd (c i j)) >>= fun _ => k (D i j)) R :=
  e_op (f := fun i j k => Mir.lft (grd (c i j)) >>= fun _ => k (D i j)) ha hb fun i j _ S1 s _ k z hm Q q => by
    obtain ⟨_, e, hm⟩ := run_of_lft hm
    have h := grd_of e
    exact ⟨i, j, rfl, rfl, hc i j h, q _ _ (hR i j S1 h) hm⟩
end
/-- of a size that no bound of the model meets -/
def Sm (a : Int) : Prop := a.natAbs.log2 < 60000000
instance (a : Int) : Decidable (Sm a) := inferInstanceAs (Decidable (_ < _))
theorem Sm.of {a : Int} {n : Nat} (h : a.natAbs < 2 ^ n) (h0 : 0 < n) (hn : n ≤ 60000000) : Sm a := Nat.lt_of_lt_of_le (PySem.Flt.log2_lt_of h0 h) hn
theorem bits_log (a : Int) : Builtin.Int.intBits a ≤ a.natAbs.log2 + 1 := by
  unfold Builtin.Int.intBits
  split <;> omega
theorem Sm.mul {a b : Int} (h : Sm a ∧ Sm b) : CMulX a b := by
  have h1 := bits_log a
  have h2 := bits_log b
  unfold Sm at h
  unfold CMulX
  omega
end Wk
set_option Elab.async false
set_option maxRecDepth 100000
set_option maxHeartbeats 4000000
set_option linter.all false
/-! W1: the world of a def's body, statements, loops, comprehensions -/
namespace Wk
open PySem L2
open PyProof.Rows hiding St
section
variable {μ : Type → Type} {τ : Type} [Mir μ τ] {α β γ δ : Type} {p : Pt τ} {σ : St} {S H S0 H0 : Hp} {te ta tb : TE} {tt : TT} {L : List (Addr × HO)} {K : PySem.W.Frag}

/-- what a body knows: how it stands to its entry (S0, H0), its own objects L -/
structure Wd (p : Pt τ) (S0 H0 S H : Hp) (L : List (Addr × HO)) : Prop where
  g : Gm p.M S0 H0 S H
  o : ∀ c ∈ L, H c.1 = some c.2 ∧ S c.1 = none ∧ H0 c.1 = none
  n : (p.M ++ L.map (·.1)).Nodup
theorem Wd.start (e : Ex S H) : Wd p S H S H [] := ⟨Gm.rf e, fun _ h => (nomatch h), by simpa using p.nd⟩
theorem Wd.i (w : Wd p S0 H0 S H L) : Ex S H := w.g.i
theorem Wd.nm (w : Wd p S0 H0 S H L) {c : Addr × HO} (h : c ∈ L) : c.1 ∉ p.M := fun q => by
  have z := List.nodup_append.mp w.n
  exact z.2.2 c.1 q c.1 (List.mem_map_of_mem h) rfl
theorem Wd.go {S1 H1 : Hp} (w : Wd p S0 H0 S H L) (g : Gm p.M S H S1 H1) : Wd p S0 H0 S1 H1 L :=
  ⟨w.g.tr g, fun c h => ⟨g.h _ _ (w.nm h) (w.o c h).1, g.f _ _ (w.o c h).1 (w.o c h).2.1, (w.o c h).2.2⟩, w.n⟩
theorem Wd.add {S1 H1 : Hp} {q : Addr} {o : HO} (w : Wd p S0 H0 S H L) (g : Gm p.M S H S1 H1) (n : H q = none) (e : H1 q = some o) (s : S1 q = none) (m : q ∉ p.M) : Wd p S0 H0 S1 H1 ((q, o) :: L) := by
  have w1 := w.go g
  have n0 : H0 q = none := by
    cases z : H0 q with
    | none => rfl
    | some u =>
      obtain ⟨u', z'⟩ := w.g.t q u z
      rw [n] at z'; cases z'
  have nL : q ∉ L.map (·.1) := fun z => by
    obtain ⟨c, hc, e'⟩ := List.mem_map.mp z
    have := (w.o c hc).1
    rw [e', n] at this; cases this
  refine ⟨w1.g, fun c h => ?_, ?_⟩
  · rcases List.mem_cons.mp h with z | z
    · subst z; exact ⟨e, s, n0⟩
    · exact w1.o c z
  · have z := List.nodup_append.mp w.n
    rw [List.map_cons]
    refine List.nodup_append.mpr ⟨z.1, List.nodup_cons.mpr ⟨nL, z.2.1⟩, fun a ha b hb e' => ?_⟩
    rcases List.mem_cons.mp hb with z' | z'
    · have z2 : b = q := z'
      exact m (by rw [← z2, ← e']; exact ha)
    · exact z.2.2 a ha b z' e'
theorem Wd.at {i : Nat} {q : Addr} {o : HO} (w : Wd p S0 H0 S H L) (h : L[i]? = some (q, o)) : H q = some o ∧ S q = none ∧ H0 q = none := w.o (q, o) (List.mem_of_getElem? h)
theorem set_fst {q : Addr} {o o' : HO} : ∀ {L : List (Addr × HO)} {i : Nat}, L[i]? = some (q, o) → (L.set i (q, o')).map (·.1) = L.map (·.1)
  | [], _, h => by simp at h
  | c :: L, 0, h => by
    simp at h; subst h; rfl
  | c :: L, i + 1, h => by
    show c.1 :: (L.set i (q, o')).map (·.1) = c.1 :: L.map (·.1)
    rw [set_fst (i := i) (by simpa using h)]
theorem Gm.put {M : List Addr} {S1 H1 : Hp} {q : Addr} {o : HO} (g : Gm M S H S1 H1) (n : H q = none) (s : S1 q = none) : Gm M S H S1 (upd H1 q o) := by
  refine ⟨g.s, fun a u h => ?_, fun a u m h => ?_, g.f, fun a u h => ?_⟩
  · rw [upd_ne (ne_of_none h s)]; exact g.i a u h
  · rw [upd_ne (ne_of_none h n)]; exact g.h a u m h
  · rw [upd_ne (ne_of_none h n)]; exact g.t a u h
theorem Wd.put {i : Nat} {q : Addr} {o o' : HO} (w : Wd p S0 H0 S H L) (h : L[i]? = some (q, o)) : Wd p S0 H0 S (upd H q o') (L.set i (q, o')) := by
  obtain ⟨h1, h2, h3⟩ := w.at h
  refine ⟨w.g.put h3 h2, fun c hc => ?_, by rw [set_fst h]; exact w.n⟩
  have nd : (L.map (·.1)).Nodup := (List.nodup_append.mp w.n).2.1
  have hi : i < L.length := (List.getElem?_eq_some_iff.mp h).1
  obtain ⟨j, hj, e⟩ := List.mem_iff_getElem.mp hc
  by_cases ej : j = i
  · subst ej
    rw [List.getElem_set_self] at e
    subst e
    exact ⟨upd_same, h2, h3⟩
  · rw [List.getElem_set_ne (Ne.symm ej)] at e
    have hj' : j < L.length := by simpa using hj
    have mem : c ∈ L := by rw [← e]; exact List.getElem_mem hj'
    have ne : c.1 ≠ q := fun z => ej <| by
      have z1 : (L.map (·.1))[j]? = some q := by rw [List.getElem?_map, List.getElem?_eq_getElem hj', e]; simp [z]
      have z2 : (L.map (·.1))[i]? = some q := by rw [List.getElem?_map, h]; rfl
      exact nd_ix nd z1 z2
    obtain ⟨a, b, d⟩ := w.o c mem
    exact ⟨by rw [upd_ne ne]; exact a, b, d⟩
theorem PotAt.put {s : τ} {q : Addr} {o : HO} (a : PotAt p s S H) (m : q ∉ p.M) : PotAt p s S (upd H q o) := fun c hc => by
  have : c.1 ≠ q := fun z => m (by rw [← z, ← p.adr s]; exact List.mem_map_of_mem hc)
  exact ⟨by rw [upd_ne this]; exact (a c hc).1, (a c hc).2⟩
theorem PotAt.frz {s : τ} {q : Addr} {o : HO} (a : PotAt p s S H) (m : q ∉ p.M) : PotAt p s (upd S q o) H := fun c hc => by
  have : c.1 ≠ q := fun z => m (by rw [← z, ← p.adr s]; exact List.mem_map_of_mem hc)
  exact ⟨(a c hc).1, by rw [upd_ne this]; exact (a c hc).2⟩
theorem erase_sub {i : Nat} {c : Addr × HO} (h : c ∈ L.eraseIdx i) : c ∈ L := List.mem_of_mem_eraseIdx h
theorem ex_frz {q : Addr} {o : HO} (s : S q = none) : Ex S (upd S q o) := fun a u h => by rw [upd_ne (ne_of_none h s)]; exact h
/-- an own object stays from now on -/
theorem Wd.frz {i : Nat} {q : Addr} {o : HO} (w : Wd p S0 H0 S H L) (h : L[i]? = some (q, o)) : Wd p S0 H0 (upd S q o) H (L.eraseIdx i) := by
  obtain ⟨h1, h2, h3⟩ := w.at h
  have hi : i < L.length := (List.getElem?_eq_some_iff.mp h).1
  refine ⟨⟨w.g.s.tr (ex_frz h2), fun a u e => ?_, w.g.h, fun a u e n => ?_, w.g.t⟩, fun c hc => ?_, ?_⟩
  · by_cases z : a = q
    · subst z; rw [upd_same] at e; cases e; exact h1
    · rw [upd_ne z] at e; exact w.g.i a u e
  · rw [upd_ne (ne_of_none e h3)]; exact w.g.f a u e n
  · obtain ⟨a, b, d⟩ := w.o c (erase_sub hc)
    have nd : (L.map (·.1)).Nodup := (List.nodup_append.mp w.n).2.1
    have ne : c.1 ≠ q := fun z => by
      obtain ⟨j, hj, e⟩ := List.mem_iff_getElem.mp hc
      have e1 : L.eraseIdx i = L.take i ++ L.drop (i + 1) := List.eraseIdx_eq_take_drop_succ L i
      have e2 : L = L.take i ++ (q, o) :: L.drop (i + 1) := by
        have ev : L[i] = (q, o) := by
          have := List.getElem?_eq_getElem hi
          rw [h] at this
          exact (Option.some.inj this).symm
        rw [← ev]
        simp
      rw [e2, List.map_append, List.map_cons] at nd
      have nd' := List.nodup_append.mp nd
      rw [e1] at hc
      rcases List.mem_append.mp hc with z1 | z1
      · exact nd'.2.2 c.1 (List.mem_map_of_mem z1) q (by simp) z
      · exact (List.nodup_cons.mp nd'.2.1).1 (by show q ∈ _; rw [← z]; exact List.mem_map_of_mem (f := fun c : Addr × HO => c.1) z1)
    exact ⟨a, by rw [upd_ne ne]; exact b, d⟩
  · refine w.n.sublist (List.Sublist.append (List.Sublist.refl _) (List.Sublist.map _ (List.eraseIdx_sublist L i)))
theorem Wd.drop {i : Nat} (w : Wd p S0 H0 S H L) : Wd p S0 H0 S H (L.eraseIdx i) :=
  ⟨w.g, fun c h => w.o c (erase_sub h), w.n.sublist (List.Sublist.append (List.Sublist.refl _) (List.Sublist.map _ (List.eraseIdx_sublist L i)))⟩
/-- the values at some places -/
def pick {α : Type} (ix : List Nat) (l : List α) : List α := ix.filterMap fun i => l[i]?
theorem mem_pick {α : Type} {ix : List Nat} {l : List α} {a : α} (h : a ∈ pick ix l) : ∃ i ∈ ix, l[i]? = some a := List.mem_filterMap.mp h
theorem pick_nd {L : List (Addr × HO)} (nd : (L.map (·.1)).Nodup) : ∀ {ix : List Nat}, ix.Nodup → ((pick ix L).map (·.1)).Nodup
  | [], _ => List.nodup_nil
  | i :: ix, h => by
    have h' := List.nodup_cons.mp h
    have t := pick_nd nd h'.2
    unfold pick at t ⊢
    rw [List.filterMap_cons]
    cases e : L[i]? with
    | none => exact t
    | some c =>
      refine List.nodup_cons.mpr ⟨fun z => ?_, t⟩
      obtain ⟨d, hd, e2⟩ := List.mem_map.mp z
      obtain ⟨j, hj, e3⟩ := mem_pick hd
      have z1 : (L.map (·.1))[j]? = some c.1 := by rw [List.getElem?_map, e3]; simp [e2]
      have z2 : (L.map (·.1))[i]? = some c.1 := by rw [List.getElem?_map, e]; rfl
      exact h'.1 (nd_ix nd z2 z1 ▸ hj)
theorem Wd.pick (ix : List Nat) (w : Wd p S0 H0 S H L) (h : ix.Nodup) : Wd p S0 H0 S H (Wk.pick ix L) := by
  have z := List.nodup_append.mp w.n
  have sub : ∀ c ∈ Wk.pick ix L, c ∈ L := fun c hc => by
    obtain ⟨i, _, e⟩ := mem_pick hc
    exact List.mem_of_getElem? e
  refine ⟨w.g, fun c hc => w.o c (sub c hc), List.nodup_append.mpr ⟨z.1, pick_nd z.2.1 h, fun a ha b hb => ?_⟩⟩
  obtain ⟨c, hc, e⟩ := List.mem_map.mp hb
  exact z.2.2 a ha b (List.mem_map.mpr ⟨c, sub c hc, e⟩)
theorem Wd.nmAt {i : Nat} {q : Addr} {o : HO} (w : Wd p S0 H0 S H L) (h : L[i]? = some (q, o)) : q ∉ p.M := w.nm (c := (q, o)) (List.mem_of_getElem? h)

/-! ### lists that are made, read -/
theorem EvL.frz {A : Rq α} {m : (α → μ β) → μ β} [Mo A] (h : EvL p te σ S H m A) : Ev p te σ S H m (rL A) := fun S1 H1 s g ps k z hm Q q =>
  h S1 H1 s g ps k z hm Q fun a x vs S2 H2 s2 g2 p2 n1 e2 n2 m2 r hm2 => by
    refine q a (.ref x) (upd S2 x (.lst vs)) H2 s2 ⟨g2.s.tr (ex_frz n2), fun b u e => ?_, g2.h, fun b u e n => ?_, g2.t⟩ (p2.frz m2) ⟨x, vs, rfl, upd_same, Mo.mo (ex_frz n2) r⟩ hm2
    · by_cases z : b = x
      · subst z; rw [upd_same] at e; cases e; exact e2
      · rw [upd_ne z] at e; exact g2.i b u e
    · rw [upd_ne (ne_of_none e n1)]; exact g2.f b u e n
theorem EvL.rd {A : Rq α} {m : (α → μ β) → μ β} (h : EvL p te σ S H m A) : EvR p te σ S H m A := fun S1 H1 s g ps k z hm Q q =>
  h S1 H1 s g ps k z hm Q fun a x vs S2 H2 s2 g2 p2 _ e2 _ m2 r hm2 => q a x vs S2 H2 s2 g2 p2 e2 m2 r hm2
theorem pot_nM {s : τ} (ps : PotAt p s S H) {x : Addr} {o : HO} (hx : S x = some o) : x ∉ p.M := fun z => by
  rw [← p.adr s] at z
  obtain ⟨c, hc, e⟩ := List.mem_map.mp z
  have := (ps c hc).2
  rw [e, hx] at this; cases this
theorem Ev.rd {A : Rq α} {m : (α → μ β) → μ β} (h : Ev p te σ S H m (rL A)) : EvR p te σ S H m A := fun S1 H1 s g ps k z hm Q q =>
  h S1 H1 s g ps k z hm Q fun a v S2 H2 s2 g2 p2 ⟨x, vs, e, h1, h2⟩ hm2 => by
    subst e
    exact q a x vs S2 H2 s2 g2 p2 (g2.i _ _ h1) (pot_nM p2 h1) h2 hm2
theorem e_own {i : Nat} {a : α} {q : Addr} {vs : List V} {A : Rq α} [Mo A] (e : σ[i]? = some (some (.ref q))) (hq : H q = some (.lst vs)) (hM : q ∉ p.M) (r : A a vs S) : EvR (μ := μ) (β := β) p (tVar i) σ S H (fun k => k a) A :=
  fun _ _ _ g ps _ _ hm _ k => ⟨.ref q, e, k _ _ _ _ _ _ (Gm.rf g.i) ps (g.h _ _ hM hq) hM (Mo.mo g.s r) hm⟩
theorem w_own {i j : Nat} {a : α} {q : Addr} {vs : List V} {A : Rq α} [Mo A] (w : Wd p S0 H0 S H L) (hj : L[j]? = some (q, .lst vs)) (e : σ[i]? = some (some (.ref q))) (r : A a vs S) : EvR (μ := μ) (β := β) p (tVar i) σ S H (fun k => k a) A :=
  e_own e (w.at hj).1 (w.nmAt hj) r

/-! ### arguments, displays -/
theorem a_nil : EvA (μ := μ) (β := β) p tNil σ S H (fun k => k ()) aNil := fun _ _ _ g ps _ _ hm _ q => q _ _ _ _ _ (Gm.rf g.i) ps rfl hm
theorem a_one {m : (α → μ β) → μ β} {R : Rp α} (h : Ev p te σ S H m R) : EvA p (tCons te tNil) σ S H m (aOne R) := fun S1 H1 s g ps k z hm Q q =>
  h S1 H1 s g ps k z hm _ fun a v S2 H2 s2 g2 p2 r hm2 => q a [v] S2 H2 s2 g2 p2 ⟨v, rfl, r⟩ hm2
theorem a_cons {tr : TA} {m : (α → μ β) → μ β} {m' : (γ → μ β) → μ β} {R : Rp α} {A : Rq γ} [Mo R] (h : Ev p te σ S H m R) (h' : EvA p tr σ S H m' A) : EvA p (tCons te tr) σ S H (fun k => m fun a => m' fun b => k (a, b)) (aCons R A) := fun S1 H1 s g ps k z hm Q q =>
  h S1 H1 s g ps _ z hm _ fun a v S2 H2 s2 g2 p2 r hm2 => h' S2 H2 s2 (g.tr g2) p2 _ z hm2 _ fun b vs S3 H3 s3 g3 p3 r3 hm3 => q (a, b) (v :: vs) S3 H3 s3 (g2.tr g3) p3 ⟨v, vs, rfl, Mo.mo g3.s r, r3⟩ hm3
theorem a_nilL {R : Rp α} : EvA (μ := μ) (β := β) p tNil σ S H (fun k => k []) (aAll R) := fun _ _ _ g ps _ _ hm _ q => q _ _ _ _ _ (Gm.rf g.i) ps .nil hm
theorem a_consL {tr : TA} {m : (α → μ β) → μ β} {m' : (List α → μ β) → μ β} {R : Rp α} [Mo R] (h : Ev p te σ S H m R) (h' : EvA p tr σ S H m' (aAll R)) : EvA p (tCons te tr) σ S H (fun k => m fun a => m' fun b => k (a :: b)) (aAll R) := fun S1 H1 s g ps k z hm Q q =>
  h S1 H1 s g ps _ z hm _ fun a v S2 H2 s2 g2 p2 r hm2 => h' S2 H2 s2 (g.tr g2) p2 _ z hm2 _ fun b vs S3 H3 s3 g3 p3 r3 hm3 => q (a :: b) (v :: vs) S3 H3 s3 (g2.tr g3) p3 (.cons (Mo.mo g3.s r) r3) hm3
/-- how many values there are -/
def ArN (n : Nat) (A : Rq α) : Prop := ∀ a vs S, A a vs S → vs.length ≤ n
theorem arN_nil : ArN 0 aNil := fun _ vs _ h => by rw [show vs = [] from h]; exact Nat.le_refl _
theorem arN_one {R : Rp α} : ArN 1 (aOne R) := fun _ vs _ ⟨v, e, _⟩ => by rw [e]; exact Nat.le_refl _
theorem arN_cons {n : Nat} {R : Rp α} {A : Rq γ} (h : ArN n A) : ArN (n + 1) (aCons R A) := fun _ vs _ ⟨v, r, e, _, h2⟩ => by
  rw [e]
  exact Nat.succ_le_succ (h _ _ _ h2)
theorem e_tup {m : (α → μ β) → μ β} {A : Rq α} {t : TA} {n : Nat} [Mo A] (h : EvA p t σ S H m A) (hn : ArN n A) (hz : n ≤ sizeLine) : Ev p (tTup t) σ S H m (rT K A) := fun S1 H1 s g ps k z hm Q q =>
  h S1 H1 s g ps k z hm _ fun a vs S2 H2 s2 g2 p2 r hm2 => ⟨Nat.le_trans (hn _ _ _ r) hz, fun x hx =>
    have g3 : Gm p.M S2 H2 (upd S2 x (.tup vs)) (upd H2 x (.tup vs)) := Gm.new g2.i hx
    q a _ _ _ s2 (g2.tr g3) (p2.go (Gm.new g2.i hx)) ⟨x, vs, rfl, .of upd_same, Mo.mo g3.s r⟩ hm2⟩
/-- a display of one kind of items -/
theorem e_tupL {m : (List α → μ β) → μ β} {R : Rp α} {t : TA} [Mo R] (h : EvA p t σ S H m (aAll R)) : Ev p (tTup t) σ S H (fun k => m fun a => Mir.lft (grd (a.length ≤ 16000000)) >>= fun _ => k a) (rT K (aAll R)) := fun S1 H1 s g ps k z hm Q q =>
  h S1 H1 s g ps _ z hm _ fun a vs S2 H2 s2 g2 p2 r hm2 => by
    obtain ⟨_, e, hm2⟩ := run_of_lft hm2
    have hl := grd_of e
    have hr : All R S2 a vs := r
    refine ⟨by rw [← hr.len, sizeLine_eq]; omega, fun x hx => ?_⟩
    have g3 : Gm p.M S2 H2 (upd S2 x (.tup vs)) (upd H2 x (.tup vs)) := Gm.new g2.i hx
    exact q a _ _ _ s2 (g2.tr g3) (p2.go (Gm.new g2.i hx)) ⟨x, vs, rfl, .of upd_same, Mo.mo (R := aAll R) g3.s r⟩ hm2
theorem new_nM {s : τ} (ps : PotAt p s S H) {x : Addr} (hx : H x = none) : x ∉ p.M := fun z => by
  rw [← p.adr s] at z
  obtain ⟨c, hc, e⟩ := List.mem_map.mp z
  have := (ps c hc).1
  rw [e, hx] at this; cases this
theorem l_lst {m : (α → μ β) → μ β} {A : Rq α} {t : TA} {n : Nat} [Mo A] (h : EvA p t σ S H m A) (hn : ArN n A) (hz : n ≤ sizeLine) : EvL p (tLst t) σ S H m A := fun S1 H1 s g ps k z hm Q q =>
  h S1 H1 s g ps k z hm _ fun a vs S2 H2 s2 g2 p2 r hm2 => ⟨Nat.le_trans (hn _ _ _ r) hz, fun x hx =>
    have g3 : Gm p.M S2 H2 S2 (upd H2 x (.lst vs)) := Gm.own g2.i hx
    have n1 : H1 x = none := by
      cases e : H1 x with
      | none => rfl
      | some u => obtain ⟨u', e'⟩ := g2.t x u e; rw [hx] at e'; cases e'
    q a x vs S2 _ s2 (g2.tr g3) (p2.go (Gm.own g2.i hx)) n1 upd_same (g2.i.no hx) (new_nM p2 hx) r hm2⟩
theorem l_lstL {m : (List α → μ β) → μ β} {R : Rp α} {t : TA} [Mo R] (h : EvA p t σ S H m (aAll R)) : EvL p (tLst t) σ S H (fun k => m fun a => Mir.lft (grd (a.length ≤ 16000000)) >>= fun _ => k a) (aAll R) := fun S1 H1 s g ps k z hm Q q =>
  h S1 H1 s g ps _ z hm _ fun a vs S2 H2 s2 g2 p2 r hm2 => by
    obtain ⟨_, e, hm2⟩ := run_of_lft hm2
    have hl := grd_of e
    have hr : All R S2 a vs := r
    refine ⟨by rw [← hr.len, sizeLine_eq]; omega, fun x hx => ?_⟩
    have g3 : Gm p.M S2 H2 S2 (upd H2 x (.lst vs)) := Gm.own g2.i hx
    have n1 : H1 x = none := by
      cases e : H1 x with
      | none => rfl
      | some u => obtain ⟨u', e'⟩ := g2.t x u e; rw [hx] at e'; cases e'
    exact q a x vs S2 _ s2 (g2.tr g3) (p2.go (Gm.own g2.i hx)) n1 upd_same (g2.i.no hx) (new_nM p2 hx) r hm2

/-! ### tests, choices -/
theorem t_B {m : (Bool → μ β) → μ β} (h : Ev p te σ S H m rB) : EvT p (tB te) σ S H m := fun S1 H1 s g ps k z hm Q q =>
  h S1 H1 s g ps k z hm _ fun b v S2 H2 s2 g2 p2 r hm2 => ⟨b, r, q b S2 H2 s2 g2 p2 hm2⟩
theorem t_Test {m : (Bool → μ β) → μ β} (h : Ev p te σ S H m rB) : EvT p (tTest te) σ S H m := fun S1 H1 s g ps k z hm Q q =>
  h S1 H1 s g ps k z hm _ fun b v S2 H2 s2 g2 p2 r hm2 => ⟨b, r, q b S2 H2 s2 g2 p2 hm2⟩
theorem EvT.go {m : (Bool → μ β) → μ β} {S1 H1 : Hp} (h : EvT p tt σ S H m) (g : Gm p.M S H S1 H1) : EvT p tt σ S1 H1 m := fun S2 H2 s g2 ps => h S2 H2 s (g.tr g2) ps
theorem t_and {tu : TT} {m : (Bool → μ β) → μ β} {m' : (Bool → μ Bool) → μ Bool} (h : EvT p tt σ S H m) (h' : EvT p tu σ S H m') : EvT p (tAnd tt tu) σ S H (fun k => m fun a => (if a = true then m' pure else pure false) >>= k) := fun S1 H1 s g ps k z hm Q q =>
  h S1 H1 s g ps _ z hm _ fun b S2 H2 s2 g2 p2 hm2 => by
    obtain ⟨c, s3, e1, e2⟩ := run_of_bind hm2
    cases b with
    | true => exact iteT (h' S2 H2 s2 (g.tr g2) p2 pure (c, s3) (by simpa using e1) Q fun d S3 H3 s4 g3 p3 hm3 => by cases run_of_pure hm3; exact q _ S3 H3 _ (g2.tr g3) p3 e2)
    | false => exact iteF (by cases run_of_pure (show Mir.run (pure false : μ Bool) s2 = some (c, s3) by simpa using e1); exact q _ S2 H2 _ g2 p2 e2)
theorem t_or {tu : TT} {m : (Bool → μ β) → μ β} {m' : (Bool → μ Bool) → μ Bool} (h : EvT p tt σ S H m) (h' : EvT p tu σ S H m') : EvT p (tOr tt tu) σ S H (fun k => m fun a => (if a = true then pure true else m' pure) >>= k) := fun S1 H1 s g ps k z hm Q q =>
  h S1 H1 s g ps _ z hm _ fun b S2 H2 s2 g2 p2 hm2 => by
    obtain ⟨c, s3, e1, e2⟩ := run_of_bind hm2
    cases b with
    | true => exact iteT (by cases run_of_pure (show Mir.run (pure true : μ Bool) s2 = some (c, s3) by simpa using e1); exact q _ S2 H2 _ g2 p2 e2)
    | false => exact iteF (h' S2 H2 s2 (g.tr g2) p2 pure (c, s3) (by simpa using e1) Q fun d S3 H3 s4 g3 p3 hm3 => by cases run_of_pure hm3; exact q _ S3 H3 _ (g2.tr g3) p3 e2)
/-- the second one is asked without a condition -/
theorem t_andT {tu : TT} {m : (Bool → μ β) → μ β} {c : Bool} (h : EvT p tt σ S H m) (h' : EvT (μ := μ) (β := β) p tu σ S H (fun k => k c)) : EvT p (tAnd tt tu) σ S H (fun k => m fun a => k (a && c)) := fun S1 H1 s g ps k z hm Q q =>
  h S1 H1 s g ps _ z hm _ fun b S2 H2 s2 g2 p2 hm2 => by
    cases b with
    | true => exact iteT (h' S2 H2 s2 (g.tr g2) p2 k z (by simpa using hm2) Q fun d S3 H3 s3 g3 p3 hm3 => q d S3 H3 s3 (g2.tr g3) p3 hm3)
    | false => exact iteF (q false S2 H2 s2 g2 p2 (by simpa using hm2))
theorem t_orT {tu : TT} {m : (Bool → μ β) → μ β} {c : Bool} (h : EvT p tt σ S H m) (h' : EvT (μ := μ) (β := β) p tu σ S H (fun k => k c)) : EvT p (tOr tt tu) σ S H (fun k => m fun a => k (a || c)) := fun S1 H1 s g ps k z hm Q q =>
  h S1 H1 s g ps _ z hm _ fun b S2 H2 s2 g2 p2 hm2 => by
    cases b with
    | true => exact iteT (q true S2 H2 s2 g2 p2 (by simpa using hm2))
    | false => exact iteF (h' S2 H2 s2 (g.tr g2) p2 k z (by simpa using hm2) Q fun d S3 H3 s3 g3 p3 hm3 => q d S3 H3 s3 (g2.tr g3) p3 hm3)
theorem t_not {m : (Bool → μ β) → μ β} (h : EvT p tt σ S H m) : EvT p (tNot tt) σ S H (fun k => m fun a => k (!a)) := fun S1 H1 s g ps k z hm Q q =>
  h S1 H1 s g ps _ z hm _ fun b S2 H2 s2 g2 p2 hm2 => q (!b) S2 H2 s2 g2 p2 hm2
theorem e_and {m : (Bool → μ β) → μ β} {m' : (Bool → μ Bool) → μ Bool} (h : Ev p ta σ S H m rB) (h' : Ev p tb σ S H m' rB) : Ev p (tAndV ta tb) σ S H (fun k => m fun a => (if a = true then m' pure else pure false) >>= k) rB := fun S1 H1 s g ps k z hm Q q =>
  h S1 H1 s g ps _ z hm _ fun b v S2 H2 s2 g2 p2 r hm2 => ⟨b, r, by
    obtain ⟨c, s3, e1, e2⟩ := run_of_bind hm2
    cases b with
    | true => exact iteT (h' S2 H2 s2 (g.tr g2) p2 pure (c, s3) (by simpa using e1) Q fun d u S3 H3 s4 g3 p3 r3 hm3 => by cases run_of_pure hm3; exact q _ u S3 H3 _ (g2.tr g3) p3 r3 e2)
    | false => exact iteF (by cases run_of_pure (show Mir.run (pure false : μ Bool) s2 = some (c, s3) by simpa using e1); exact q _ _ S2 H2 _ g2 p2 rfl e2)⟩
theorem e_or {m : (Bool → μ β) → μ β} {m' : (Bool → μ Bool) → μ Bool} (h : Ev p ta σ S H m rB) (h' : Ev p tb σ S H m' rB) : Ev p (tOrV ta tb) σ S H (fun k => m fun a => (if a = true then pure true else m' pure) >>= k) rB := fun S1 H1 s g ps k z hm Q q =>
  h S1 H1 s g ps _ z hm _ fun b v S2 H2 s2 g2 p2 r hm2 => ⟨b, r, by
    obtain ⟨c, s3, e1, e2⟩ := run_of_bind hm2
    cases b with
    | true => exact iteT (by cases run_of_pure (show Mir.run (pure true : μ Bool) s2 = some (c, s3) by simpa using e1); exact q _ _ S2 H2 _ g2 p2 rfl e2)
    | false => exact iteF (h' S2 H2 s2 (g.tr g2) p2 pure (c, s3) (by simpa using e1) Q fun d u S3 H3 s4 g3 p3 r3 hm3 => by cases run_of_pure hm3; exact q _ u S3 H3 _ (g2.tr g3) p3 r3 e2)⟩
theorem e_andT {m : (Bool → μ β) → μ β} {c : Bool} (h : Ev p ta σ S H m rB) (h' : Ev (μ := μ) (β := β) p tb σ S H (fun k => k c) rB) : Ev p (tAndV ta tb) σ S H (fun k => m fun a => k (a && c)) rB := fun S1 H1 s g ps k z hm Q q =>
  h S1 H1 s g ps _ z hm _ fun b v S2 H2 s2 g2 p2 r hm2 => ⟨b, r, by
    cases b with
    | true => exact iteT (h' S2 H2 s2 (g.tr g2) p2 k z (by simpa using hm2) Q fun d u S3 H3 s3 g3 p3 r3 hm3 => q d u S3 H3 s3 (g2.tr g3) p3 r3 hm3)
    | false => exact iteF (q false _ S2 H2 s2 g2 p2 rfl (by simpa using hm2))⟩
theorem e_orT {m : (Bool → μ β) → μ β} {c : Bool} (h : Ev p ta σ S H m rB) (h' : Ev (μ := μ) (β := β) p tb σ S H (fun k => k c) rB) : Ev p (tOrV ta tb) σ S H (fun k => m fun a => k (a || c)) rB := fun S1 H1 s g ps k z hm Q q =>
  h S1 H1 s g ps _ z hm _ fun b v S2 H2 s2 g2 p2 r hm2 => ⟨b, r, by
    cases b with
    | true => exact iteT (q true _ S2 H2 s2 g2 p2 rfl (by simpa using hm2))
    | false => exact iteF (h' S2 H2 s2 (g.tr g2) p2 k z (by simpa using hm2) Q fun d u S3 H3 s3 g3 p3 r3 hm3 => q d u S3 H3 s3 (g2.tr g3) p3 r3 hm3)⟩
theorem e_not {m : (Bool → μ β) → μ β} (h : Ev p ta σ S H m rB) : Ev p (tNotV ta) σ S H (fun k => m fun a => k (!a)) rB := fun S1 H1 s g ps k z hm Q q =>
  h S1 H1 s g ps _ z hm _ fun b v S2 H2 s2 g2 p2 r hm2 => ⟨b, r, q _ _ S2 H2 s2 g2 p2 rfl hm2⟩
/-- a if t else b: the ways meet again -/
theorem e_if {mt : (Bool → μ β) → μ β} {ma mb : (α → μ α) → μ α} {R : Rp α} (h : EvT p tt σ S H mt) (h1 : Ev p ta σ S H ma R) (h2 : Ev p tb σ S H mb R) :
    Ev p (tIf tt ta tb) σ S H (fun k => mt fun b => (if b = true then ma pure else mb pure) >>= k) R := fun S1 H1 s g ps k z hm Q q =>
  h S1 H1 s g ps _ z hm _ fun b S2 H2 s2 g2 p2 hm2 => by
    obtain ⟨a, s3, e1, e2⟩ := run_of_bind hm2
    cases b with
    | true => exact iteT (h1 S2 H2 s2 (g.tr g2) p2 pure (a, s3) (by simpa using e1) Q fun c u S3 H3 s4 g3 p3 r3 hm3 => by cases run_of_pure hm3; exact q _ u S3 H3 _ (g2.tr g3) p3 r3 e2)
    | false => exact iteF (h2 S2 H2 s2 (g.tr g2) p2 pure (a, s3) (by simpa using e1) Q fun c u S3 H3 s4 g3 p3 r3 hm3 => by cases run_of_pure hm3; exact q _ u S3 H3 _ (g2.tr g3) p3 r3 e2)
/-- both ways are asked without a condition -/
theorem e_ifT {mt : (Bool → μ β) → μ β} {x y : α} {R : Rp α} (h : EvT p tt σ S H mt) (h1 : Ev (μ := μ) (β := β) p ta σ S H (fun k => k x) R) (h2 : Ev (μ := μ) (β := β) p tb σ S H (fun k => k y) R) :
    Ev p (tIf tt ta tb) σ S H (fun k => mt fun b => k (if b = true then x else y)) R := fun S1 H1 s g ps k z hm Q q =>
  h S1 H1 s g ps _ z hm _ fun b S2 H2 s2 g2 p2 hm2 => by
    cases b with
    | true => exact iteT (h1 S2 H2 s2 (g.tr g2) p2 k z (by simpa using hm2) Q fun c u S3 H3 s4 g3 p3 r3 hm3 => q _ u S3 H3 _ (g2.tr g3) p3 r3 hm3)
    | false => exact iteF (h2 S2 H2 s2 (g.tr g2) p2 k z (by simpa using hm2) Q fun c u S3 H3 s4 g3 p3 r3 hm3 => q _ u S3 H3 _ (g2.tr g3) p3 r3 hm3)
theorem l_if {mt : (Bool → μ β) → μ β} {ma mb : (α → μ α) → μ α} {A : Rq α} (h : EvT p tt σ S H mt) (h1 : EvL p ta σ S H ma A) (h2 : EvL p tb σ S H mb A) :
    EvL p (tIf tt ta tb) σ S H (fun k => mt fun b => (if b = true then ma pure else mb pure) >>= k) A := fun S1 H1 s g ps k z hm Q q =>
  h S1 H1 s g ps _ z hm _ fun b S2 H2 s2 g2 p2 hm2 => by
    obtain ⟨a, s3, e1, e2⟩ := run_of_bind hm2
    have back : ∀ {x : Addr}, H2 x = none → H1 x = none := fun {x} hx => by
      cases e : H1 x with
      | none => rfl
      | some u => obtain ⟨u', e'⟩ := g2.t x u e; rw [hx] at e'; cases e'
    cases b with
    | true => exact iteT (h1 S2 H2 s2 (g.tr g2) p2 pure (a, s3) (by simpa using e1) Q fun c x vs S3 H3 s4 g3 p3 n1 e3 n3 m3 r3 hm3 => by cases run_of_pure hm3; exact q _ x vs S3 H3 _ (g2.tr g3) p3 (back n1) e3 n3 m3 r3 e2)
    | false => exact iteF (h2 S2 H2 s2 (g.tr g2) p2 pure (a, s3) (by simpa using e1) Q fun c x vs S3 H3 s4 g3 p3 n1 e3 n3 m3 r3 hm3 => by cases run_of_pure hm3; exact q _ x vs S3 H3 _ (g2.tr g3) p3 (back n1) e3 n3 m3 r3 e2)
end
end Wk
set_option Elab.async false
set_option maxRecDepth 100000
set_option maxHeartbeats 4000000
set_option linter.all false
/-! W2: targets, statements, loops, comprehensions -/
namespace Wk
open PySem L2
open PyProof.Rows hiding St
section
variable {μ : Type → Type} {τ : Type} [Mir μ τ] {α β γ δ ζ : Type} {p : Pt τ} {σ : St} {S H S0 H0 : Hp} {te ta tb : TE} {tt : TT} {L : List (Addr × HO)} {K : PySem.W.Frag} {tz tu tw : TS} {D : Ends} {s : τ} {z : β × τ}

/-! ### targets: what an item is, how the slots then stand -/
def Tg (g : TG) (R : Rp α) (P : α → St → St → Hp → Prop) : Prop := ∀ a v σ S H (Q : St → Hp → Prop), Ex S H → R a v S → (∀ σ', P a σ σ' S → Q σ' H) → g v σ H Q
def pN (j : Nat) (R : Rp α) : α → St → St → Hp → Prop := fun a σ σ' S => ∃ v, σ' = σ.set j (some v) ∧ R a v S
theorem g_nm {j : Nat} {R : Rp α} : Tg (gName j) R (pN j R) := fun _ v _ _ _ _ _ r q => q _ ⟨v, rfl, r⟩
/-- the items of a tuple, one after another -/
def TgQ (n : Nat) (g : TGs) (A : Rq α) (P : α → St → St → Hp → Prop) : Prop := ∀ a vs σ S H (Q : St → Hp → Prop), Ex S H → A a vs S → vs.length = n ∧ ((∀ σ', P a σ σ' S → Q σ' H) → g vs σ H Q)
theorem gq_one {g : TG} {R : Rp α} {P : α → St → St → Hp → Prop} (h : Tg g R P) : TgQ 1 (gCons g gNil) (aOne R) P := fun a vs σ S H Q e ⟨v, e1, r⟩ => by
  subst e1
  exact ⟨rfl, fun q => ⟨v, [], rfl, h a v σ S H _ e r fun σ' p' => ⟨rfl, q σ' p'⟩⟩⟩
theorem gq_cons {n : Nat} {g : TG} {gs : TGs} {R : Rp α} {A : Rq γ} {P : α → St → St → Hp → Prop} {P' : γ → St → St → Hp → Prop} (h : Tg g R P) (h' : TgQ n gs A P') :
    TgQ (n + 1) (gCons g gs) (aCons R A) (fun x σ σ2 S => ∃ σ1, P x.1 σ σ1 S ∧ P' x.2 σ1 σ2 S) := fun a vs σ S H Q e ⟨v, r, e1, h1, h2⟩ => by
  subst e1
  refine ⟨congrArg Nat.succ (h' a.2 r σ S H Q e h2).1, fun q => ⟨v, r, rfl, h a.1 v σ S H _ e h1 fun σ1 p1 => (h' a.2 r σ1 S H Q e h2).2 fun σ2 p2 => q σ2 ⟨σ1, p1, p2⟩⟩⟩
theorem g_tp {n : Nat} {gs : TGs} {A : Rq α} {P : α → St → St → Hp → Prop} (h : TgQ n gs A P) : Tg (gTup K n gs) (rT K A) P := fun a v σ S H Q e ⟨x, vs, e1, h1, h2⟩ q => by
  subst e1
  exact ⟨x, vs, rfl, sqT_ex e h1, (h a vs σ S H Q e h2).1, (h a vs σ S H Q e h2).2 q⟩

/-- what the slots are told stays told -/
def PMo (P : α → St → St → Hp → Prop) : Prop := ∀ x σ σ' S1 S2, Ex S1 S2 → P x σ σ' S1 → P x σ σ' S2
theorem pm_nm {j : Nat} {R : Rp α} [Mo R] : PMo (pN j R) := fun _ _ _ _ _ e ⟨v, h, r⟩ => ⟨v, h, Mo.mo e r⟩
theorem pm_cons {P : α → St → St → Hp → Prop} {P' : γ → St → St → Hp → Prop} (h : PMo P) (h' : PMo P') : PMo (fun (x : α × γ) σ σ2 S => ∃ σ1, P x.1 σ σ1 S ∧ P' x.2 σ1 σ2 S) :=
  fun _ _ _ _ _ e ⟨σ1, a, b⟩ => ⟨σ1, h _ _ _ _ _ e a, h' _ _ _ _ _ e b⟩

/-! ### statements -/
theorem nx_done (h : tz D σ H) : tNext { D with nx := tz D } σ H := h
theorem q_set {i : Nat} {m : (α → μ β) → μ β} {R : Rp α} {k : α → μ β} (σ' : V → St) (hσ : ∀ v, σ.set i (some v) = σ' v) (w : Wd p S0 H0 S H L) (ps : PotAt p s S H) (h : Ev p te σ S H m R) (hm : Mir.run (m fun a => bnd a k) s = some z)
    (nx : ∀ a v S1 H1 s1, Wd p S0 H0 S1 H1 L → PotAt p s1 S1 H1 → Gm p.M S H S1 H1 → R a v S1 → Mir.run (k a) s1 = some z → tz D (σ' v) H1) : tSeq (tAsg te (gName i)) tz D σ H :=
  h S H s (Gm.rf w.i) ps _ z hm _ fun a v S1 H1 s1 g p1 r hm1 => by
    have q := nx a v S1 H1 s1 (w.go g) p1 g r hm1
    rw [← hσ v] at q
    exact q
theorem q_setL {i : Nat} {m : (α → μ β) → μ β} {A : Rq α} {k : α → μ β} (σ' : V → St) (hσ : ∀ v, σ.set i (some v) = σ' v) (w : Wd p S0 H0 S H L) (ps : PotAt p s S H) (h : EvL p te σ S H m A) (hm : Mir.run (m fun a => bnd a k) s = some z)
    (nx : ∀ a q vs S1 H1 s1, Wd p S0 H0 S1 H1 ((q, .lst vs) :: L) → PotAt p s1 S1 H1 → Gm p.M S H S1 H1 → A a vs S1 → Mir.run (k a) s1 = some z → tz D (σ' (.ref q)) H1) : tSeq (tAsg te (gName i)) tz D σ H :=
  h S H s (Gm.rf w.i) ps _ z hm _ fun a q vs S1 H1 s1 g p1 n e sn m r hm1 => by
    have q := nx a q vs S1 H1 s1 (w.add g n e sn m) p1 g r hm1
    rw [← hσ] at q
    exact q
/-- some expression is asked, what is wanted of it goes on -/
theorem x_ev {m : (α → μ β) → μ β} {R : Rp α} {k : α → μ β} {Q : VK} (w : Wd p S0 H0 S H L) (ps : PotAt p s S H) (h : Ev p te σ S H m R) (hm : Mir.run (m fun a => bnd a k) s = some z)
    (nx : ∀ a v S1 H1 s1, Wd p S0 H0 S1 H1 L → PotAt p s1 S1 H1 → Gm p.M S H S1 H1 → R a v S1 → Mir.run (k a) s1 = some z → Q v H1) : te σ H Q :=
  h S H s (Gm.rf w.i) ps _ z hm _ fun a v S1 H1 s1 g p1 r hm1 => nx a v S1 H1 s1 (w.go g) p1 g r hm1
theorem x_evL {m : (α → μ β) → μ β} {A : Rq α} {k : α → μ β} {Q : VK} (w : Wd p S0 H0 S H L) (ps : PotAt p s S H) (h : EvL p te σ S H m A) (hm : Mir.run (m fun a => bnd a k) s = some z)
    (nx : ∀ a q vs S1 H1 s1, Wd p S0 H0 S1 H1 ((q, .lst vs) :: L) → PotAt p s1 S1 H1 → Gm p.M S H S1 H1 → A a vs S1 → Mir.run (k a) s1 = some z → Q (.ref q) H1) : te σ H Q :=
  h S H s (Gm.rf w.i) ps _ z hm _ fun a q vs S1 H1 s1 g p1 n e sn m r hm1 => nx a q vs S1 H1 s1 (w.add g n e sn m) p1 g r hm1
theorem par_go {i j : Nat} {t1 t2 : TE} (h : t1 σ H fun x H1 => t2 σ H1 fun y H2 => ∃ v w, [x, y] = [v, w] ∧ tz D ((σ.set i (some v)).set j (some w)) H2) : tSeq (tPar i j (tCons t1 (tCons t2 tNil))) tz D σ H := h
theorem par_end {i j : Nat} {x y : V} (σ' : St) (hσ : (σ.set i (some x)).set j (some y) = σ') (h : tz D σ' H) : ∃ v w, [x, y] = [v, w] ∧ tz D ((σ.set i (some v)).set j (some w)) H := ⟨x, y, rfl, by rw [hσ]; exact h⟩
theorem par3_go {i j l : Nat} {t1 t2 t3 : TE} (h : t1 σ H fun x H1 => t2 σ H1 fun y H2 => t3 σ H2 fun w H3 => ∃ a b c, [x, y, w] = [a, b, c] ∧ tz D (((σ.set i (some a)).set j (some b)).set l (some c)) H3) : tSeq (tPar3 i j l (tCons t1 (tCons t2 (tCons t3 tNil)))) tz D σ H := h
theorem par3_end {i j l : Nat} {x y w : V} (σ' : St) (hσ : ((σ.set i (some x)).set j (some y)).set l (some w) = σ') (h : tz D σ' H) : ∃ a b c, [x, y, w] = [a, b, c] ∧ tz D (((σ.set i (some a)).set j (some b)).set l (some c)) H := ⟨x, y, w, rfl, by rw [hσ]; exact h⟩
/-- a, b, .. = x, y, ..: the tuple is made -/
def gSeq : List Nat → TGs
  | [] => gNil
  | i :: is => gCons (gName i) (gSeq is)
def setAll : St → List Nat → List V → St
  | σ, i :: is, v :: vs => setAll (σ.set i (some v)) is vs
  | σ, _, _ => σ
theorem gSeq_go {Q : St → Hp → Prop} : ∀ (is : List Nat) (vs : List V) (σ : St) (H : Hp), is.length = vs.length → Q (setAll σ is vs) H → gSeq is vs σ H Q
  | [], [], σ, H, _, h => ⟨rfl, h⟩
  | i :: is, v :: vs, σ, H, e, h => ⟨v, vs, rfl, gSeq_go is vs (σ.set i (some v)) H (by simpa using e) h⟩
  | [], _ :: _, _, _, e, _ => by simp at e
  | _ :: _, [], _, _, e, _ => by simp at e
theorem tup_end {is : List Nat} {vs : List V} {Q : St → Hp → Prop} (σ' : St) (w : Wd p S0 H0 S H L) (ps : PotAt p s S H) (hl : is.length = vs.length) (hz : vs.length ≤ 1000) (hσ : setAll σ is vs = σ')
    (nx : ∀ S1 H1, Wd p S0 H0 S1 H1 L → PotAt p s S1 H1 → Gm p.M S H S1 H1 → Q σ' H1) :
    vs.length ≤ sizeLine ∧ ∀ x, H x = none → gTup K is.length (gSeq is) (.ref x) σ (upd H x (.tup vs)) Q :=
  ⟨Nat.le_trans hz (by decide), fun x hx => ⟨x, vs, rfl, .of upd_same, hl.symm, gSeq_go is vs σ _ hl (by
    rw [hσ]
    exact nx (upd S x (.tup vs)) _ (w.go (Gm.new w.i hx)) (ps.go (Gm.new w.i hx)) (Gm.new w.i hx))⟩⟩
/-- a, b = e -/
theorem q_unp {g : TG} {m : (α → μ β) → μ β} {R : Rp α} {P : α → St → St → Hp → Prop} {k : α → μ β} (w : Wd p S0 H0 S H L) (ps : PotAt p s S H) (h : Ev p te σ S H m R) (hg : Tg g R P) (hm : Mir.run (m fun a => bnd a k) s = some z)
    (nx : ∀ a σ' S1 H1 s1, Wd p S0 H0 S1 H1 L → PotAt p s1 S1 H1 → Gm p.M S H S1 H1 → P a σ σ' S1 → Mir.run (k a) s1 = some z → tz D σ' H1) : tSeq (tAsg te g) tz D σ H :=
  h S H s (Gm.rf w.i) ps _ z hm _ fun a v S1 H1 s1 g1 p1 r hm1 => hg a v σ S1 H1 _ g1.i r fun σ' hp => nx a σ' S1 H1 s1 (w.go g1) p1 g1 hp hm1
/-- a, b = x, y of two plain local names -/
theorem q_par {i j : Nat} {ta : TA} {m : (α × γ → μ β) → μ β} {R : Rp α} {R' : Rp γ} {k : α → γ → μ β} (w : Wd p S0 H0 S H L) (ps : PotAt p s S H) (h : EvA p ta σ S H m (aCons R (aOne R'))) (hm : Mir.run (m fun a => bnd a.1 fun x => bnd a.2 fun y => k x y) s = some z)
    (nx : ∀ a b v u S1 H1 s1, Wd p S0 H0 S1 H1 L → PotAt p s1 S1 H1 → Gm p.M S H S1 H1 → R a v S1 → R' b u S1 → Mir.run (k a b) s1 = some z → tz D ((σ.set i (some v)).set j (some u)) H1) : tSeq (tPar i j ta) tz D σ H :=
  h S H s (Gm.rf w.i) ps _ z hm _ fun a vs S1 H1 s1 g p1 r hm1 => by
    obtain ⟨v, r, e1, r1, u, e2, r2⟩ := r
    subst e2
    subst e1
    exact ⟨v, u, rfl, nx a.1 a.2 v u S1 H1 s1 (w.go g) p1 g r1 r2 hm1⟩
theorem q_drop {m : (α → μ β) → μ β} {R : Rp α} {k : μ β} (w : Wd p S0 H0 S H L) (ps : PotAt p s S H) (h : Ev p te σ S H m R) (hm : Mir.run (m fun _ => k) s = some z)
    (nx : ∀ S1 H1 s1, Wd p S0 H0 S1 H1 L → PotAt p s1 S1 H1 → Gm p.M S H S1 H1 → Mir.run k s1 = some z → tz D σ H1) : tSeq (tDrop te) tz D σ H :=
  h S H s (Gm.rf w.i) ps _ z hm _ fun a v S1 H1 s1 g p1 r hm1 => nx S1 H1 s1 (w.go g) p1 g hm1
theorem q_ret {m : (α → μ β) → μ β} {R : Rp α} {k : α → μ β} (w : Wd p S0 H0 S H L) (ps : PotAt p s S H) (h : Ev p te σ S H m R) (hm : Mir.run (m fun a => bnd a k) s = some z)
    (nx : ∀ a v S1 H1 s1, Wd p S0 H0 S1 H1 L → PotAt p s1 S1 H1 → Gm p.M S H S1 H1 → R a v S1 → Mir.run (k a) s1 = some z → D.rt v H1) : tSeq (tRet te) tz D σ H :=
  h S H s (Gm.rf w.i) ps _ z hm _ fun a v S1 H1 s1 g p1 r hm1 => nx a v S1 H1 s1 (w.go g) p1 g r hm1
/-- a new list is handed back -/
theorem q_retL {m : (α → μ β) → μ β} {A : Rq α} {k : α → μ β} (w : Wd p S0 H0 S H L) (ps : PotAt p s S H) (h : EvL p te σ S H m A) (hm : Mir.run (m fun a => bnd a k) s = some z)
    (nx : ∀ a q vs S1 H1 s1, Wd p S0 H0 S1 H1 ((q, .lst vs) :: L) → PotAt p s1 S1 H1 → Gm p.M S H S1 H1 → A a vs S1 → Mir.run (k a) s1 = some z → D.rt (.ref q) H1) : tSeq (tRet te) tz D σ H :=
  h S H s (Gm.rf w.i) ps _ z hm _ fun a q vs S1 H1 s1 g p1 n e sn m r hm1 => nx a q vs S1 H1 s1 (w.add g n e sn m) p1 g r hm1
theorem q_retO {i : Nat} {q : Addr} {a : α} {k : α → μ β} (e : σ[i]? = some (some (.ref q))) (hm : Mir.run (bnd a k) s = some z)
    (nx : Mir.run (k a) s = some z → D.rt (.ref q) H) : tSeq (tRet (tVar i)) tz D σ H := ⟨.ref q, e, nx hm⟩
theorem q_retN (h : D.rt .non H) : tSeq tRetN tz D σ H := h
/-- if: each way goes on by itself -/
theorem q_if {m : (Bool → μ β) → μ β} {A B : μ β} (w : Wd p S0 H0 S H L) (ps : PotAt p s S H) (h : EvT p tt σ S H m) (hm : Mir.run (m fun b => if b = true then A else B) s = some z)
    (h1 : ∀ S1 H1 s1, Wd p S0 H0 S1 H1 L → PotAt p s1 S1 H1 → Gm p.M S H S1 H1 → Mir.run A s1 = some z → tu { D with nx := tz D } σ H1)
    (h2 : ∀ S1 H1 s1, Wd p S0 H0 S1 H1 L → PotAt p s1 S1 H1 → Gm p.M S H S1 H1 → Mir.run B s1 = some z → tw { D with nx := tz D } σ H1) : tSeq (tIfS tt tu tw) tz D σ H :=
  h S H s (Gm.rf w.i) ps _ z hm _ fun b S1 H1 s1 g p1 hm1 => by
    cases b with
    | true => exact iteT (h1 S1 H1 s1 (w.go g) p1 g (by simpa using hm1))
    | false => exact iteF (h2 S1 H1 s1 (w.go g) p1 g (by simpa using hm1))
/-- if: the ways meet again with what they changed -/
theorem q_ifj {m : (Bool → μ β) → μ β} {A B : μ ζ} {k : ζ → μ β} (Iv : ζ → St → Hp → Hp → τ → Prop) (w : Wd p S0 H0 S H L) (ps : PotAt p s S H) (h : EvT p tt σ S H m) (hm : Mir.run (m fun b => (if b = true then A else B) >>= k) s = some z)
    (h1 : ∀ S1 H1 s1 st s2 (D' : Ends), Wd p S0 H0 S1 H1 L → PotAt p s1 S1 H1 → Gm p.M S H S1 H1 → Mir.run A s1 = some (st, s2) → (∀ σ' S' H', Iv st σ' S' H' s2 → D'.nx σ' H') → tu D' σ H1)
    (h2 : ∀ S1 H1 s1 st s2 (D' : Ends), Wd p S0 H0 S1 H1 L → PotAt p s1 S1 H1 → Gm p.M S H S1 H1 → Mir.run B s1 = some (st, s2) → (∀ σ' S' H', Iv st σ' S' H' s2 → D'.nx σ' H') → tw D' σ H1)
    (nx : ∀ st σ' S1 H1 s1, Iv st σ' S1 H1 s1 → Mir.run (k st) s1 = some z → tz D σ' H1) : tSeq (tIfS tt tu tw) tz D σ H :=
  h S H s (Gm.rf w.i) ps _ z hm _ fun b S1 H1 s1 g p1 hm1 => by
    obtain ⟨st, s2, e1, e2⟩ := run_of_bind hm1
    cases b with
    | true => exact iteT (h1 S1 H1 s1 st s2 _ (w.go g) p1 g (by simpa using e1) fun σ' S' H' iv => nx st σ' S' H' s2 iv e2)
    | false => exact iteF (h2 S1 H1 s1 st s2 _ (w.go g) p1 g (by simpa using e1) fun σ' S' H' iv => nx st σ' S' H' s2 iv e2)

theorem tup2_go {t1 t2 : TE} {g : TG} (h : t1 σ H fun x1 H1 => t2 σ H1 fun x2 H2 => [x1, x2].length ≤ sizeLine ∧ ∀ y, H2 y = none → g (.ref y) σ (upd H2 y (.tup [x1, x2])) (tz D)) : tSeq (tAsg (tTup (tCons t1 (tCons t2 tNil))) g) tz D σ H := h
theorem tup3_go {t1 t2 t3 : TE} {g : TG} (h : t1 σ H fun x1 H1 => t2 σ H1 fun x2 H2 => t3 σ H2 fun x3 H3 => [x1, x2, x3].length ≤ sizeLine ∧ ∀ y, H3 y = none → g (.ref y) σ (upd H3 y (.tup [x1, x2, x3])) (tz D)) : tSeq (tAsg (tTup (tCons t1 (tCons t2 (tCons t3 tNil)))) g) tz D σ H := h
theorem tup4_go {t1 t2 t3 t4 : TE} {g : TG} (h : t1 σ H fun x1 H1 => t2 σ H1 fun x2 H2 => t3 σ H2 fun x3 H3 => t4 σ H3 fun x4 H4 => [x1, x2, x3, x4].length ≤ sizeLine ∧ ∀ y, H4 y = none → g (.ref y) σ (upd H4 y (.tup [x1, x2, x3, x4])) (tz D)) : tSeq (tAsg (tTup (tCons t1 (tCons t2 (tCons t3 (tCons t4 tNil))))) g) tz D σ H := h
theorem tup5_go {t1 t2 t3 t4 t5 : TE} {g : TG} (h : t1 σ H fun x1 H1 => t2 σ H1 fun x2 H2 => t3 σ H2 fun x3 H3 => t4 σ H3 fun x4 H4 => t5 σ H4 fun x5 H5 => [x1, x2, x3, x4, x5].length ≤ sizeLine ∧ ∀ y, H5 y = none → g (.ref y) σ (upd H5 y (.tup [x1, x2, x3, x4, x5])) (tz D)) : tSeq (tAsg (tTup (tCons t1 (tCons t2 (tCons t3 (tCons t4 (tCons t5 tNil)))))) g) tz D σ H := h
theorem tup6_go {t1 t2 t3 t4 t5 t6 : TE} {g : TG} (h : t1 σ H fun x1 H1 => t2 σ H1 fun x2 H2 => t3 σ H2 fun x3 H3 => t4 σ H3 fun x4 H4 => t5 σ H4 fun x5 H5 => t6 σ H5 fun x6 H6 => [x1, x2, x3, x4, x5, x6].length ≤ sizeLine ∧ ∀ y, H6 y = none → g (.ref y) σ (upd H6 y (.tup [x1, x2, x3, x4, x5, x6])) (tz D)) : tSeq (tAsg (tTup (tCons t1 (tCons t2 (tCons t3 (tCons t4 (tCons t5 (tCons t6 tNil))))))) g) tz D σ H := h
theorem tup7_go {t1 t2 t3 t4 t5 t6 t7 : TE} {g : TG} (h : t1 σ H fun x1 H1 => t2 σ H1 fun x2 H2 => t3 σ H2 fun x3 H3 => t4 σ H3 fun x4 H4 => t5 σ H4 fun x5 H5 => t6 σ H5 fun x6 H6 => t7 σ H6 fun x7 H7 => [x1, x2, x3, x4, x5, x6, x7].length ≤ sizeLine ∧ ∀ y, H7 y = none → g (.ref y) σ (upd H7 y (.tup [x1, x2, x3, x4, x5, x6, x7])) (tz D)) : tSeq (tAsg (tTup (tCons t1 (tCons t2 (tCons t3 (tCons t4 (tCons t5 (tCons t6 (tCons t7 tNil)))))))) g) tz D σ H := h
theorem tup8_go {t1 t2 t3 t4 t5 t6 t7 t8 : TE} {g : TG} (h : t1 σ H fun x1 H1 => t2 σ H1 fun x2 H2 => t3 σ H2 fun x3 H3 => t4 σ H3 fun x4 H4 => t5 σ H4 fun x5 H5 => t6 σ H5 fun x6 H6 => t7 σ H6 fun x7 H7 => t8 σ H7 fun x8 H8 => [x1, x2, x3, x4, x5, x6, x7, x8].length ≤ sizeLine ∧ ∀ y, H8 y = none → g (.ref y) σ (upd H8 y (.tup [x1, x2, x3, x4, x5, x6, x7, x8])) (tz D)) : tSeq (tAsg (tTup (tCons t1 (tCons t2 (tCons t3 (tCons t4 (tCons t5 (tCons t6 (tCons t7 (tCons t8 tNil))))))))) g) tz D σ H := h

/-! ### lists of one's own are changed -/
theorem ty_own {x : Addr} {vs : List V} (h : H x = some (.lst vs)) : tyV K "list" (.ref x) H := .inl ⟨rfl, _, .of h⟩
theorem q_app {i j : Nat} {q : Addr} {vs : List V} {xs : List α} {m : (α → μ β) → μ β} {R : Rp α} [Mo R] {k : List α → μ β} (w : Wd p S0 H0 S H L) (ps : PotAt p s S H) (hj : L[j]? = some (q, .lst vs)) (e : σ[i]? = some (some (.ref q))) (ha : All R S xs vs) (h : Ev p te σ S H m R)
    (hm : Mir.run (m fun a => Mir.lft (grd (xs.length < 16000000)) >>= fun _ => bnd (xs ++ [a]) k) s = some z)
    (nx : ∀ ys us S1 H1 s1, Wd p S0 H0 S1 H1 (L.set j (q, .lst us)) → PotAt p s1 S1 H1 → Ex S S1 → All R S1 ys us → Mir.run (k ys) s1 = some z → tz D σ H1) : tSeq (tDrop (tBM K "list" rAppend (tVar i) (tCons te tNil))) tz D σ H :=
  ⟨.ref q, e, ty_own (w.at hj).1, h S H s (Gm.rf w.i) ps _ z hm _ fun a v S1 H1 s1 g p1 r hm1 => by
    obtain ⟨_, e1, hm1⟩ := run_of_lft hm1
    have hl := grd_of e1
    have w1 := w.go g
    refine ⟨q, vs, v, rfl, rfl, (w1.at hj).1, by rw [← ha.len, sizeLine_eq]; omega, ?_⟩
    exact nx (xs ++ [a]) (vs ++ [v]) S1 _ s1 (w1.put hj) (p1.put (w.nmAt hj)) g.s ((ha.mo g.s).app (.cons r .nil)) hm1⟩
theorem q_ext {i j : Nat} {q : Addr} {vs : List V} {xs : List α} {m : (List α → μ β) → μ β} {R : Rp α} [Mo R] {k : List α → μ β} (w : Wd p S0 H0 S H L) (ps : PotAt p s S H) (hj : L[j]? = some (q, .lst vs)) (e : σ[i]? = some (some (.ref q))) (ha : All R S xs vs) (h : EvL p te σ S H m (aAll R))
    (hm : Mir.run (m fun a => Mir.lft (grd (xs.length + a.length ≤ 16000000)) >>= fun _ => bnd (xs ++ a) k) s = some z)
    (nx : ∀ ys us S1 H1 s1, Wd p S0 H0 S1 H1 (L.set j (q, .lst us)) → PotAt p s1 S1 H1 → Ex S S1 → All R S1 ys us → Mir.run (k ys) s1 = some z → tz D σ H1) : tSeq (tDrop (tBM K "list" rExtend (tVar i) (tCons te tNil))) tz D σ H :=
  ⟨.ref q, e, ty_own (w.at hj).1, h S H s (Gm.rf w.i) ps _ z hm _ fun a x us S1 H1 s1 g p1 n1 e2 n2 m2 r hm1 => by
    obtain ⟨_, e1, hm1⟩ := run_of_lft hm1
    have hl := grd_of e1
    have w1 := w.go g
    have hr : All R S1 a us := r
    refine ⟨q, x, vs, us, rfl, rfl, (w1.at hj).1, e2, by rw [← ha.len, ← hr.len, sizeLine_eq]; omega, ?_⟩
    exact nx (xs ++ a) (vs ++ us) S1 _ s1 (w1.put hj) (p1.put (w.nmAt hj)) g.s ((ha.mo g.s).app hr) hm1⟩
/-- xs[i] = e -/
theorem q_put {i j : Nat} {q : Addr} {vs : List V} {xs : List α} {m : (α → μ β) → μ β} {mi : (Int → μ β) → μ β} {R : Rp α} [Mo R] {k : List α → μ β} (w : Wd p S0 H0 S H L) (ps : PotAt p s S H) (hj : L[j]? = some (q, .lst vs)) (e : σ[i]? = some (some (.ref q))) (ha : All R S xs vs) (h : Ev p te σ S H m R) (hi : Ev p ta σ S H mi rI)
    (hm : Mir.run (m fun a => mi fun n => Mir.lft (ixN xs.length n) >>= fun o => bnd (xs.set o a) k) s = some z)
    (nx : ∀ ys us S1 H1 s1, Wd p S0 H0 S1 H1 (L.set j (q, .lst us)) → PotAt p s1 S1 H1 → Ex S S1 → All R S1 ys us → Mir.run (k ys) s1 = some z → tz D σ H1) : tSeq (tAsg te (gSub (tVar i) ta rSetL)) tz D σ H :=
  h S H s (Gm.rf w.i) ps _ z hm _ fun a v S1 H1 s1 g p1 r hm1 => ⟨.ref q, e, hi S1 H1 s1 g p1 _ z hm1 _ fun n u S2 H2 s2 g2 p2 r2 hm2 => by
    obtain ⟨o, e1, hm2⟩ := run_of_lft hm2
    have w2 := (w.go g).go g2
    cases (show u = .int n from r2)
    refine ⟨q, vs, n, o, rfl, rfl, (w2.at hj).1, by rw [← ha.len]; exact e1, ?_⟩
    exact nx (xs.set o a) (vs.set o v) S2 _ s2 (w2.put hj) (p2.put (w.nmAt hj)) (g.s.tr g2.s) ((ha.mo (g.s.tr g2.s)).set (Mo.mo g2.s r) o) hm2⟩

/-! ### while -/
def whS : Nat → (ζ → (Bool → μ ζ) → μ ζ) → (ζ → μ ζ) → ζ → μ ζ
  | 0, _, _, _ => Mir.lft none
  | n + 1, c, b, st => c st fun t => if t = true then b st >>= whS n c b else pure st
inductive Ctl (ρ ζ : Type) where
  | go (s : ζ) | brk (s : ζ) | ret (r : ρ)
def aft {ρ β : Type} : Ctl ρ ζ → (ζ → β) → (ρ → β) → β
  | .go s, f, _ => f s
  | .brk s, f, _ => f s
  | .ret r, _, g => g r
def whC {ρ : Type} : Nat → (ζ → (Bool → μ (Ctl ρ ζ)) → μ (Ctl ρ ζ)) → (ζ → μ (Ctl ρ ζ)) → ζ → μ (Ctl ρ ζ)
  | 0, _, _, _ => Mir.lft none
  | n + 1, c, b, st => c st fun t => if t = true then b st >>= fun o => match o with | .go st' => whC n c b st' | x => pure x else pure (.go st)
/-- more turns than any loop has -/
@[irreducible] def many : Nat := 10 ^ 40
theorem q_wh {n : Nat} {c : ζ → (Bool → μ ζ) → μ ζ} {b : ζ → μ ζ} {st0 : ζ} {k : ζ → μ β} (Iv : ζ → St → Hp → Hp → τ → Prop) (h0 : Iv st0 σ S H s) (hm : Mir.run (whS n c b st0 >>= k) s = some z)
    (hc : ∀ st σ1 S1 H1 s1, Iv st σ1 S1 H1 s1 → PotAt p s1 S1 H1 ∧ Ex S1 H1 ∧ EvT p tt σ1 S1 H1 (c st))
    (hg : ∀ st σ1 S1 H1 s1 S2 H2 s2, Iv st σ1 S1 H1 s1 → Gm p.M S1 H1 S2 H2 → PotAt p s2 S2 H2 → Iv st σ1 S2 H2 s2)
    (hb : ∀ st σ1 S1 H1 s1 st' s2 (D' : Ends), Iv st σ1 S1 H1 s1 → Mir.run (b st) s1 = some (st', s2) → (∀ σ' S' H', Iv st' σ' S' H' s2 → D'.nx σ' H' ∧ D'.ct σ' H') → tu D' σ1 H1)
    (nx : ∀ st σ1 S1 H1 s1, Iv st σ1 S1 H1 s1 → Mir.run (k st) s1 = some z → tz D σ1 H1) : tSeq (tWhile tt tu) tz D σ H := by
  obtain ⟨stf, sf, e1, e2⟩ := run_of_bind hm
  refine ⟨fun m σ H => ∃ st S s, Iv st σ S H s ∧ Mir.run (whS m c b st) s = some (stf, sf), ⟨n, st0, S, s, h0, e1⟩, ?_⟩
  rintro m σ1 H1 ⟨st, S1, s1, iv, e⟩
  obtain ⟨p1, x1, t1⟩ := hc st σ1 S1 H1 s1 iv
  cases m with
  | zero =>
    exfalso
    have e' : Mir.run (Mir.lft none : μ ζ) s1 = some (stf, sf) := e
    rw [Mir.run_lft] at e'
    cases e'
  | succ m =>
    refine t1 S1 H1 s1 (Gm.rf x1) p1 _ (stf, sf) e _ fun t S2 H2 s2 g2 p2 hm2 => ?_
    have iv2 := hg st σ1 S1 H1 s1 S2 H2 s2 iv g2 p2
    cases t with
    | true =>
      obtain ⟨st', s3, e3, e4⟩ := run_of_bind (by simpa using hm2)
      refine iteT ⟨fun σ' H' => ∃ S', Iv st' σ' S' H' s3, fun σ' H' ⟨S', i'⟩ => ⟨m, Nat.lt_succ_self m, st', S', s3, i', e4⟩, ?_⟩
      exact hb st σ1 S2 H2 s2 st' s3 _ iv2 e3 fun σ' S' H' i' => ⟨⟨S', i'⟩, ⟨S', i'⟩⟩
    | false =>
      have e3 : Mir.run (pure st : μ ζ) s2 = some (stf, sf) := by simpa using hm2
      cases run_of_pure e3
      exact iteF (nx _ σ1 S2 H2 _ iv2 e2)
/-- with ways out -/
theorem q_whC {ρ : Type} {n : Nat} {c : ζ → (Bool → μ (Ctl ρ ζ)) → μ (Ctl ρ ζ)} {b : ζ → μ (Ctl ρ ζ)} {st0 : ζ} {k : Ctl ρ ζ → μ β} (Iv : ζ → St → Hp → Hp → τ → Prop) (Rt : ρ → V → Hp → τ → Prop) (h0 : Iv st0 σ S H s) (hm : Mir.run (whC n c b st0 >>= k) s = some z)
    (hc : ∀ st σ1 S1 H1 s1, Iv st σ1 S1 H1 s1 → PotAt p s1 S1 H1 ∧ Ex S1 H1 ∧ EvT p tt σ1 S1 H1 (c st))
    (hg : ∀ st σ1 S1 H1 s1 S2 H2 s2, Iv st σ1 S1 H1 s1 → Gm p.M S1 H1 S2 H2 → PotAt p s2 S2 H2 → Iv st σ1 S2 H2 s2)
    (hb : ∀ st σ1 S1 H1 s1 o s2 (D' : Ends), Iv st σ1 S1 H1 s1 → Mir.run (b st) s1 = some (o, s2) →
      (∀ st' σ' S' H', o = .go st' → Iv st' σ' S' H' s2 → D'.nx σ' H' ∧ D'.ct σ' H') → (∀ st' σ' S' H', o = .brk st' → Iv st' σ' S' H' s2 → D'.bk σ' H') → (∀ r v H', o = .ret r → Rt r v H' s2 → D'.rt v H') → tu D' σ1 H1)
    (nx : ∀ st σ1 S1 H1 s1, Iv st σ1 S1 H1 s1 → Mir.run (k (.go st)) s1 = some z ∨ Mir.run (k (.brk st)) s1 = some z → tz D σ1 H1)
    (rt : ∀ r v H1 s1, Rt r v H1 s1 → Mir.run (k (.ret r)) s1 = some z → D.rt v H1) : tSeq (tWhile tt tu) tz D σ H := by
  obtain ⟨of, sf, e1, e2⟩ := run_of_bind hm
  refine ⟨fun m σ H => ∃ st S s, Iv st σ S H s ∧ Mir.run (whC m c b st) s = some (of, sf), ⟨n, st0, S, s, h0, e1⟩, ?_⟩
  rintro m σ1 H1 ⟨st, S1, s1, iv, e⟩
  obtain ⟨p1, x1, t1⟩ := hc st σ1 S1 H1 s1 iv
  cases m with
  | zero =>
    exfalso
    have e' : Mir.run (Mir.lft none : μ (Ctl ρ ζ)) s1 = some (of, sf) := e
    rw [Mir.run_lft] at e'
    cases e'
  | succ m =>
    refine t1 S1 H1 s1 (Gm.rf x1) p1 _ (of, sf) e _ fun t S2 H2 s2 g2 p2 hm2 => ?_
    have iv2 := hg st σ1 S1 H1 s1 S2 H2 s2 iv g2 p2
    cases t with
    | true =>
      obtain ⟨o, s3, e3, e4⟩ := run_of_bind (by simpa using hm2)
      cases o with
      | go st' =>
        have e4' : Mir.run (whC m c b st') s3 = some (of, sf) := e4
        refine iteT ⟨fun σ' H' => ∃ S', Iv st' σ' S' H' s3, fun σ' H' ⟨S', i'⟩ => ⟨m, Nat.lt_succ_self m, st', S', s3, i', e4'⟩, ?_⟩
        refine hb st σ1 S2 H2 s2 _ s3 _ iv2 e3 (fun st2 σ' S' H' q i' => ?_) (fun _ _ _ _ q _ => nomatch q) (fun _ _ _ q _ => nomatch q)
        cases q
        exact ⟨⟨S', i'⟩, ⟨S', i'⟩⟩
      | brk st' =>
        have e4' : Mir.run (pure (Ctl.brk st') : μ (Ctl ρ ζ)) s3 = some (of, sf) := e4
        cases run_of_pure e4'
        refine iteT ⟨fun _ _ => False, fun _ _ q => q.elim, ?_⟩
        refine hb st σ1 S2 H2 s2 _ _ _ iv2 e3 (fun _ _ _ _ q _ => nomatch q) (fun st2 σ' S' H' q i' => ?_) (fun _ _ _ q _ => nomatch q)
        cases q
        exact nx _ _ _ _ _ i' (.inr e2)
      | ret r =>
        have e4' : Mir.run (pure (Ctl.ret r) : μ (Ctl ρ ζ)) s3 = some (of, sf) := e4
        cases run_of_pure e4'
        refine iteT ⟨fun _ _ => False, fun _ _ q => q.elim, ?_⟩
        refine hb st σ1 S2 H2 s2 _ _ _ iv2 e3 (fun _ _ _ _ q _ => nomatch q) (fun _ _ _ _ q _ => nomatch q) (fun r2 v H' q i' => ?_)
        cases q
        exact rt _ _ _ _ i' e2
    | false =>
      have e3 : Mir.run (pure (.go st) : μ (Ctl ρ ζ)) s2 = some (of, sf) := by simpa using hm2
      cases run_of_pure e3
      exact iteF (nx _ σ1 S2 H2 _ iv2 (.inl e2))

/-! ### what is walked -/
abbrev Own := List (Addr × List V)
def OwnOk (p : Pt τ) (H : Hp) (O : Own) : Prop := ∀ c ∈ O, H c.1 = some (.lst c.2) ∧ c.1 ∉ p.M
def ItOk (p : Pt τ) (J : It) (xs : List α) (R : Rp α) (S : Hp) (O : Own) : Prop :=
  ∀ S1 H1, Ex S S1 → Ex S1 H1 → OwnOk p H1 O → (∀ i, i < xs.length → J.go i H1) ∧ J.stop xs.length H1 ∧ ∀ i x v H2, xs[i]? = some x → J.yld i H1 v H2 → ∃ S2, Gm [] S1 H1 S2 H2 ∧ R x v S2
def EvI (p : Pt τ) (wi : TI) (σ : St) (S H : Hp) (m : (List α → μ β) → μ β) (R : Rp α) (O : Own) : Prop :=
  ∀ S1 H1 s, Gm p.M S H S1 H1 → PotAt p s S1 H1 → ∀ (k : List α → μ β) z, Mir.run (m k) s = some z → ∀ Q : It → Hp → Prop,
    (∀ xs J S2 H2 s2, Gm p.M S1 H1 S2 H2 → PotAt p s2 S2 H2 → ItOk p J xs R S2 O → Mir.run (k xs) s2 = some z → Q J H2) → wi σ H1 Q
theorem it_list {q : Addr} {xs : List α} {vs : List V} {R : Rp α} [Mo R] {O : Own} (hl : All R S xs vs) (h : ∀ S1 H1, Ex S S1 → Ex S1 H1 → OwnOk p H1 O → SqL K H1 q vs) : ItOk p (Itl K q) xs R S O := fun S1 H1 e1 e2 o => by
  have hq := h S1 H1 e1 e2 o
  refine ⟨fun i hi => ⟨vs, vs[i]'(by rw [← hl.len]; exact hi), hq, List.getElem?_eq_getElem _⟩, ⟨vs, hq, by rw [hl.len]; exact Nat.le_refl _⟩, fun i x v H2 hx y => ?_⟩
  obtain ⟨e3, y⟩ := y
  subst e3
  obtain ⟨u, hu, ru⟩ := hl.get hx
  rw [y vs hq] at hu
  cases hu
  exact ⟨S1, Gm.rf e2, Mo.mo e1 ru⟩
theorem i_L {m : (List α → μ β) → μ β} {R : Rp α} [Mo R] (h : Ev p te σ S H m (rL (aAll R))) : EvI p (iList K te) σ S H m R [] := fun S1 H1 s g ps k z hm Q q =>
  h S1 H1 s g ps k z hm _ fun a v S2 H2 s2 g2 p2 ⟨x, vs, e, h1, h2⟩ hm2 => ⟨x, e, ⟨vs, .of (g2.i _ _ h1)⟩, q a _ S2 H2 s2 g2 p2 (it_list h2 fun S3 H3 e1 e2 _ => .of (e2 _ _ (e1 _ _ h1))) hm2⟩
theorem i_own {i : Nat} {xs : List α} {q : Addr} {vs : List V} {R : Rp α} [Mo R] (e : σ[i]? = some (some (.ref q))) (hq : H q = some (.lst vs)) (hM : q ∉ p.M) (r : All R S xs vs) : EvI (μ := μ) (β := β) p (iList K (tVar i)) σ S H (fun k => k xs) R [(q, vs)] :=
  fun _ H1 _ g ps _ _ hm _ k => ⟨.ref q, e, q, rfl, ⟨vs, .of (g.h _ _ hM hq)⟩, k _ _ _ _ _ (Gm.rf g.i) ps (it_list (r.mo g.s) fun S3 H3 e1 e2 o => .of (o (q, vs) (by simp)).1) hm⟩
theorem i_T {m : (List α → μ β) → μ β} {R : Rp α} [Mo R] (h : Ev p te σ S H m (rT K (aAll R))) : EvI p (iTup K te) σ S H m R [] := fun S1 H1 s g ps k z hm Q q =>
  h S1 H1 s g ps k z hm _ fun a v S2 H2 s2 g2 p2 ⟨x, vs, e, h1, h2⟩ hm2 => ⟨x, e, ⟨vs, sqT_ex g2.i h1⟩, q a _ S2 H2 s2 g2 p2 (fun S3 H3 e1 e2 _ => by
    have hq := sqT_ex (e1.tr e2) h1
    refine ⟨fun i hi => ⟨vs, vs[i]'(by rw [← h2.len]; exact hi), hq, List.getElem?_eq_getElem _⟩, ⟨vs, hq, by rw [h2.len]; exact Nat.le_refl _⟩, fun i x v H2 hx y => ?_⟩
    obtain ⟨e3, y⟩ := y
    subst e3
    obtain ⟨u, hu, ru⟩ := h2.get hx
    rw [y vs hq] at hu
    cases hu
    exact ⟨S3, Gm.rf e2, Mo.mo e1 ru⟩) hm2⟩
/-- lo, lo + 1, .., below hi -/
def rng (lo hi : Int) : List Int := (List.range (hi - lo).toNat).map fun (i : Nat) => lo + (i : Int)
theorem it_rng {lo : Int} {n : Nat} {O : Own} : ItOk p (Itr lo n) ((List.range n).map fun (i : Nat) => lo + (i : Int)) rI S O := fun S1 H1 _ e2 _ => by
  refine ⟨fun i hi => by show i < n; simpa using hi, by show n ≤ _; simp, fun i x v H2 hx y => ?_⟩
  obtain ⟨e3, y⟩ := y
  subst e3
  subst y
  refine ⟨S1, Gm.rf e2, ?_⟩
  rw [List.getElem?_map] at hx
  have hi : i < n := by
    by_cases h : i < n
    · exact h
    · rw [List.getElem?_eq_none (by simpa using h)] at hx; cases hx
  rw [List.getElem?_eq_getElem (by simpa using hi)] at hx
  simp at hx
  show V.int _ = V.int _
  rw [← hx]
def RgB (i : Int) : Prop := -(2 ^ 62) ≤ i ∧ i < 2 ^ 62
instance (i : Int) : Decidable (RgB i) := inferInstanceAs (Decidable (_ ∧ _))
theorem i_R1 {m : (Int → μ β) → μ β} (h : Ev p te σ S H m rI) : EvI p (iRng1 (tCons te tNil)) σ S H (fun k => m fun n => Mir.lft (grd (RgB n)) >>= fun _ => k (rng 0 n)) rI [] := fun S1 H1 s g ps k z hm Q q =>
  h S1 H1 s g ps _ z hm _ fun n v S2 H2 s2 g2 p2 r hm2 => by
    obtain ⟨_, e, hm2⟩ := run_of_lft hm2
    have hb := grd_of e
    cases (show v = .int n from r)
    refine ⟨n, rfl, hb.1, hb.2, q _ _ S2 H2 s2 g2 p2 ?_ hm2⟩
    unfold rng
    rw [Int.sub_zero]
    exact it_rng
theorem i_R2 {m m' : (Int → μ β) → μ β} (h : Ev p ta σ S H m rI) (h' : Ev p tb σ S H m' rI) : EvI p (iRng2 (tCons ta (tCons tb tNil))) σ S H (fun k => m fun i => m' fun j => Mir.lft (grd (RgB i ∧ RgB j)) >>= fun _ => k (rng i j)) rI [] := fun S1 H1 s g ps k z hm Q q =>
  h S1 H1 s g ps _ z hm _ fun i v S2 H2 s2 g2 p2 r hm2 => h' S2 H2 s2 (g.tr g2) p2 _ z hm2 _ fun j u S3 H3 s3 g3 p3 r3 hm3 => by
    obtain ⟨_, e, hm3⟩ := run_of_lft hm3
    have hb := grd_of e
    cases (show v = .int i from r)
    cases (show u = .int j from r3)
    exact ⟨i, j, rfl, ⟨hb.1.1, hb.1.2, hb.2.1, hb.2.2⟩, q _ _ S3 H3 s3 (g2.tr g3) p3 it_rng hm3⟩

/-! ### for -/
def lpS : List α → (α → ζ → μ ζ) → ζ → μ ζ
  | [], _, st => pure st
  | x :: xs, f, st => f x st >>= lpS xs f
def lpC {ρ : Type} : List α → (α → ζ → μ (Ctl ρ ζ)) → ζ → μ (Ctl ρ ζ)
  | [], _, st => pure (.go st)
  | x :: xs, f, st => f x st >>= fun o => match o with | .go st' => lpC xs f st' | y => pure y
theorem q_for {wi : TI} {g : TG} {O : Own} {m : (List α → μ β) → μ β} {R : Rp α} {P : α → St → St → Hp → Prop} {b : α → ζ → μ ζ} {st0 : ζ} {k : ζ → μ β} (w : Wd p S0 H0 S H L) (ps : PotAt p s S H) (hi : EvI p wi σ S H m R O) (ht : Tg g R P) (hm : Mir.run (m fun xs => lpS xs b st0 >>= k) s = some z)
    (Iv : Hp → ζ → St → Hp → Hp → τ → Prop)
    (h0 : ∀ S1 H1 s1, Wd p S0 H0 S1 H1 L → PotAt p s1 S1 H1 → Gm p.M S H S1 H1 → Iv S1 st0 σ S1 H1 s1)
    (hI : ∀ Sb st σ1 S1 H1 s1, Iv Sb st σ1 S1 H1 s1 → Ex Sb S1 ∧ Ex S1 H1 ∧ PotAt p s1 S1 H1 ∧ OwnOk p H1 O)
    (hg : ∀ Sb st σ1 S1 H1 s1 S2 H2, Iv Sb st σ1 S1 H1 s1 → Gm [] S1 H1 S2 H2 → Iv Sb st σ1 S2 H2 s1)
    (hb : ∀ Sb x st σ1 σ2 S1 H1 s1 st' s2 (D' : Ends), Iv Sb st σ1 S1 H1 s1 → P x σ1 σ2 S1 → Mir.run (b x st) s1 = some (st', s2) → (∀ σ' S' H', Iv Sb st' σ' S' H' s2 → D'.nx σ' H' ∧ D'.ct σ' H') → tu D' σ2 H1)
    (nx : ∀ Sb st σ1 S1 H1 s1, Iv Sb st σ1 S1 H1 s1 → Mir.run (k st) s1 = some z → tz D σ1 H1) : tSeq (tFor wi g tu) tz D σ H :=
  hi S H s (Gm.rf w.i) ps _ z hm _ fun xs J Sb Hb sb gb pb hJ hmb => by
    obtain ⟨stf, sf, e1, e2⟩ := run_of_bind hmb
    refine ⟨fun i m σ H => m = xs.length - i ∧ i ≤ xs.length ∧ ∃ st S s, Iv Sb st σ S H s ∧ Mir.run (lpS (xs.drop i) b st) s = some (stf, sf), ⟨xs.length, by simp, Nat.zero_le _, st0, Sb, sb, h0 Sb Hb sb (w.go gb) pb gb, e1⟩, ?_⟩
    rintro i m σ1 H1 ⟨em, hi, st, S1, s1, iv, e⟩
    subst em
    obtain ⟨x1, x2, p1, o1⟩ := hI _ _ _ _ _ _ iv
    obtain ⟨j1, j2, j3⟩ := hJ S1 H1 x1 x2 o1
    by_cases hlt : i < xs.length
    · have ed : xs.drop i = xs[i] :: xs.drop (i + 1) := List.drop_eq_getElem_cons hlt
      rw [ed] at e
      obtain ⟨st', s2, e3, e4⟩ := run_of_bind (show Mir.run (b xs[i] st >>= lpS (xs.drop (i + 1)) b) s1 = some (stf, sf) from e)
      refine .inr ⟨j1 i hlt, fun σ' H' => ∃ S', Iv Sb st' σ' S' H' s2, fun σ' H' ⟨S', i'⟩ => ⟨xs.length - (i + 1), by omega, rfl, hlt, st', S', s2, i', e4⟩, fun v H2 y => ?_⟩
      obtain ⟨S2, g2, r2⟩ := j3 i xs[i] v H2 (List.getElem?_eq_getElem hlt) y
      exact ht xs[i] v σ1 S2 H2 _ g2.i r2 fun σ2 hp => hb Sb xs[i] st σ1 σ2 S2 H2 s1 st' s2 _ (hg _ _ _ _ _ _ _ _ iv g2) hp e3 fun σ' S' H' i' => ⟨⟨S', i'⟩, ⟨S', i'⟩⟩
    · have ei : i = xs.length := by omega
      subst ei
      rw [List.drop_length] at e
      cases run_of_pure (show Mir.run (pure st : μ ζ) s1 = some (stf, sf) from e)
      exact .inl ⟨j2, nx _ _ _ _ _ _ iv e2⟩
theorem q_forC {ρ : Type} {wi : TI} {g : TG} {O : Own} {m : (List α → μ β) → μ β} {R : Rp α} {P : α → St → St → Hp → Prop} {b : α → ζ → μ (Ctl ρ ζ)} {st0 : ζ} {k : Ctl ρ ζ → μ β} (w : Wd p S0 H0 S H L) (ps : PotAt p s S H) (hi : EvI p wi σ S H m R O) (ht : Tg g R P) (hm : Mir.run (m fun xs => lpC xs b st0 >>= k) s = some z)
    (Iv : Hp → ζ → St → Hp → Hp → τ → Prop) (Rt : ρ → V → Hp → τ → Prop)
    (h0 : ∀ S1 H1 s1, Wd p S0 H0 S1 H1 L → PotAt p s1 S1 H1 → Gm p.M S H S1 H1 → Iv S1 st0 σ S1 H1 s1)
    (hI : ∀ Sb st σ1 S1 H1 s1, Iv Sb st σ1 S1 H1 s1 → Ex Sb S1 ∧ Ex S1 H1 ∧ PotAt p s1 S1 H1 ∧ OwnOk p H1 O)
    (hg : ∀ Sb st σ1 S1 H1 s1 S2 H2, Iv Sb st σ1 S1 H1 s1 → Gm [] S1 H1 S2 H2 → Iv Sb st σ1 S2 H2 s1)
    (hb : ∀ Sb x st σ1 σ2 S1 H1 s1 o s2 (D' : Ends), Iv Sb st σ1 S1 H1 s1 → P x σ1 σ2 S1 → Mir.run (b x st) s1 = some (o, s2) →
      (∀ st' σ' S' H', o = .go st' → Iv Sb st' σ' S' H' s2 → D'.nx σ' H' ∧ D'.ct σ' H') → (∀ st' σ' S' H', o = .brk st' → Iv Sb st' σ' S' H' s2 → D'.bk σ' H') → (∀ r v H', o = .ret r → Rt r v H' s2 → D'.rt v H') → tu D' σ2 H1)
    (nx : ∀ Sb st σ1 S1 H1 s1, Iv Sb st σ1 S1 H1 s1 → Mir.run (k (.go st)) s1 = some z ∨ Mir.run (k (.brk st)) s1 = some z → tz D σ1 H1)
    (rt : ∀ r v H1 s1, Rt r v H1 s1 → Mir.run (k (.ret r)) s1 = some z → D.rt v H1) : tSeq (tFor wi g tu) tz D σ H :=
  hi S H s (Gm.rf w.i) ps _ z hm _ fun xs J Sb Hb sb gb pb hJ hmb => by
    obtain ⟨of, sf, e1, e2⟩ := run_of_bind hmb
    refine ⟨fun i m σ H => m = xs.length - i ∧ i ≤ xs.length ∧ ∃ st S s, Iv Sb st σ S H s ∧ Mir.run (lpC (xs.drop i) b st) s = some (of, sf), ⟨xs.length, by simp, Nat.zero_le _, st0, Sb, sb, h0 Sb Hb sb (w.go gb) pb gb, e1⟩, ?_⟩
    rintro i m σ1 H1 ⟨em, hi, st, S1, s1, iv, e⟩
    subst em
    obtain ⟨x1, x2, p1, o1⟩ := hI _ _ _ _ _ _ iv
    obtain ⟨j1, j2, j3⟩ := hJ S1 H1 x1 x2 o1
    by_cases hlt : i < xs.length
    · have ed : xs.drop i = xs[i] :: xs.drop (i + 1) := List.drop_eq_getElem_cons hlt
      rw [ed] at e
      obtain ⟨o, s2, e3, e4⟩ := run_of_bind (show Mir.run (b xs[i] st >>= fun o => match o with | .go st' => lpC (xs.drop (i + 1)) b st' | y => pure y) s1 = some (of, sf) from e)
      cases o with
      | go st' =>
        refine .inr ⟨j1 i hlt, fun σ' H' => ∃ S', Iv Sb st' σ' S' H' s2, fun σ' H' ⟨S', i'⟩ => ⟨xs.length - (i + 1), by omega, rfl, hlt, st', S', s2, i', e4⟩, fun v H2 y => ?_⟩
        obtain ⟨S2, g2, r2⟩ := j3 i xs[i] v H2 (List.getElem?_eq_getElem hlt) y
        refine ht xs[i] v σ1 S2 H2 _ g2.i r2 fun σ2 hp => hb Sb xs[i] st σ1 σ2 S2 H2 s1 _ s2 _ (hg _ _ _ _ _ _ _ _ iv g2) hp e3 (fun st2 σ' S' H' q i' => ?_) (fun _ _ _ _ q _ => nomatch q) (fun _ _ _ q _ => nomatch q)
        cases q
        exact ⟨⟨S', i'⟩, ⟨S', i'⟩⟩
      | brk st' =>
        cases run_of_pure (show Mir.run (pure (Ctl.brk st') : μ (Ctl ρ ζ)) s2 = some (of, sf) from e4)
        refine .inr ⟨j1 i hlt, fun _ _ => False, fun _ _ q => q.elim, fun v H2 y => ?_⟩
        obtain ⟨S2, g2, r2⟩ := j3 i xs[i] v H2 (List.getElem?_eq_getElem hlt) y
        refine ht xs[i] v σ1 S2 H2 _ g2.i r2 fun σ2 hp => hb Sb xs[i] st σ1 σ2 S2 H2 s1 _ _ _ (hg _ _ _ _ _ _ _ _ iv g2) hp e3 (fun _ _ _ _ q _ => nomatch q) (fun st2 σ' S' H' q i' => ?_) (fun _ _ _ q _ => nomatch q)
        cases q
        exact nx _ _ _ _ _ _ i' (.inr e2)
      | ret r =>
        cases run_of_pure (show Mir.run (pure (Ctl.ret r) : μ (Ctl ρ ζ)) s2 = some (of, sf) from e4)
        refine .inr ⟨j1 i hlt, fun _ _ => False, fun _ _ q => q.elim, fun v H2 y => ?_⟩
        obtain ⟨S2, g2, r2⟩ := j3 i xs[i] v H2 (List.getElem?_eq_getElem hlt) y
        refine ht xs[i] v σ1 S2 H2 _ g2.i r2 fun σ2 hp => hb Sb xs[i] st σ1 σ2 S2 H2 s1 _ _ _ (hg _ _ _ _ _ _ _ _ iv g2) hp e3 (fun _ _ _ _ q _ => nomatch q) (fun _ _ _ _ q _ => nomatch q) (fun r2 v' H' q i' => ?_)
        cases q
        exact rt _ _ _ _ i' e2
    · have ei : i = xs.length := by omega
      subst ei
      rw [List.drop_length] at e
      cases run_of_pure (show Mir.run (pure (.go st) : μ (Ctl ρ ζ)) s1 = some (of, sf) from e)
      exact .inl ⟨j2, nx _ _ _ _ _ _ iv (.inl e2)⟩

/-! ### comprehensions -/
def cns : Option γ → List γ → List γ
  | some y, r => y :: r
  | none, r => r
def cmp : List α → (α → μ (Option γ)) → μ (List γ)
  | [], _ => pure []
  | x :: xs, f => f x >>= fun o => cmp xs f >>= fun r => pure (cns o r)
theorem OwnOk.go {O : Own} {S1 H1 : Hp} (o : OwnOk p H O) (g : Gm p.M S H S1 H1) : OwnOk p H1 O := fun c h => ⟨g.h _ _ (o c h).2 (o c h).1, (o c h).2⟩
theorem OwnOk.put {O : Own} {q : Addr} {u : HO} (o : OwnOk p H O) (n : ∀ c ∈ O, c.1 ≠ q) : OwnOk p (upd H q u) O := fun c h => ⟨by rw [upd_ne (n c h)]; exact (o c h).1, (o c h).2⟩
theorem ownOk0 : OwnOk p H [] := fun _ h => nomatch h
theorem ownOk1 {q : Addr} {vs : List V} (h : H q = some (.lst vs)) (m : q ∉ p.M) : OwnOk p H [(q, vs)] := fun c hc => by
  have e : c = (q, vs) := by simpa using hc
  rw [e]
  exact ⟨h, m⟩
theorem lc_go {g : TG} {vs : List Nat} {O : Own} {R : Rp α} {P : α → St → St → Hp → Prop} {R' : Rp γ} [Mo R'] {mt : α → (Bool → μ (Option γ)) → μ (Option γ)} {me : α → (γ → μ (Option γ)) → μ (Option γ)} {J : It} {xs : List α} {rf : List γ} {sb sf : τ} {Sb Hb : Hp} {Q : VK}
    (g1 : Gm p.M S H Sb Hb) (pb : PotAt p sb Sb Hb) (hJ : ItOk p J xs R Sb O) (hl : xs.length ≤ 16000000) (ho : OwnOk p H O) (ht : Tg g R P) (hw : ∀ x σ' S, P x (wipe σ vs) σ' S → wipe σ' vs = wipe σ vs)
    (hc : ∀ x σ' S1 H1, Gm p.M S H S1 H1 → P x (wipe σ vs) σ' S1 → EvT p tt σ' S1 H1 (mt x))
    (he : ∀ x σ' S1 H1, Gm p.M S H S1 H1 → P x (wipe σ vs) σ' S1 → Ev p te σ' S1 H1 (me x) R') (hP : PMo P)
    (e1 : Mir.run (cmp xs (fun x => mt x fun b => if b = true then me x fun y => pure (some y) else pure none)) sb = some (rf, sf))
    (q : ∀ x us S2 H2, Gm p.M Sb Hb S2 H2 → PotAt p sf S2 H2 → Hb x = none → H2 x = some (.lst us) → S2 x = none → x ∉ p.M → All R' S2 rf us → Q (.ref x) H2) :
    ∀ D, Hb D = none → ∃ W : Nat → Nat → Hp → Prop, (∃ m, W 0 m (upd Hb D (.lst []))) ∧ ∀ i m H, W i m H →
      (J.stop i H ∧ Q (.ref D) H) ∨ (J.go i H ∧ ∃ Nx : Hp → Prop, (∀ H', Nx H' → ∃ m', m' < m ∧ W (i + 1) m' H') ∧ ∀ x H', J.yld i H x H' → g x (wipe σ vs) H' fun σ2 H2 => wipe σ2 vs = wipe σ vs ∧ tt σ2 H2 fun b H3 =>
        if b = true then te σ2 H3 fun y H4 => ∃ acc, H4 D = some (.lst acc) ∧ acc.length < sizeLine ∧ Nx (upd H4 D (.lst (acc ++ [y]))) else Nx H3) := by
    intro Dl hD
    have nS : Sb Dl = none := g1.i.no hD
    have oM : Dl ∉ p.M := new_nM pb hD
    have ob : OwnOk p Hb O := ho.go g1
    have oD : ∀ c ∈ O, c.1 ≠ Dl := fun c h e => by
      have := (ob c h).1
      rw [e, hD] at this; cases this
    refine ⟨fun i m H => m = xs.length - i ∧ i ≤ xs.length ∧ ∃ acc avs rest S s, Gm p.M Sb Hb S H ∧ PotAt p s S H ∧ S Dl = none ∧ H Dl = some (.lst avs) ∧ All R' S acc avs ∧ avs.length ≤ i ∧ OwnOk p H O ∧
      Mir.run (cmp (xs.drop i) (fun x => mt x fun b => if b = true then me x fun y => pure (some y) else pure none)) s = some (rest, sf) ∧ rf = acc ++ rest, ⟨xs.length, by simp, Nat.zero_le _, [], [], rf, Sb, sb, Gm.own g1.i hD, pb.put oM, nS, upd_same, .nil, Nat.le_refl _, ob.put oD, e1, rfl⟩, ?_⟩
    rintro i m H2 ⟨em, hi, acc, avs, rest, S2, s2, g2, p2, n2, d2, a2, l2, o2, r2, er⟩
    subst em
    obtain ⟨j1, j2, j3⟩ := hJ S2 H2 g2.s g2.i o2
    by_cases hlt : i < xs.length
    · have ed : xs.drop i = xs[i] :: xs.drop (i + 1) := List.drop_eq_getElem_cons hlt
      rw [ed] at r2
      obtain ⟨o, s3, e3, e4⟩ := run_of_bind (show Mir.run ((mt xs[i] fun b => if b = true then me xs[i] fun y => pure (some y) else pure none) >>= fun o => cmp (xs.drop (i + 1)) (fun x => mt x fun b => if b = true then me x fun y => pure (some y) else pure none) >>= fun r => pure (cns o r)) s2 = some (rest, sf) from r2)
      obtain ⟨rest', s4, e5, e6⟩ := run_of_bind e4
      have e7 := run_of_pure e6
      have e8 : rest = cns o rest' := congrArg Prod.fst e7
      have e9 : sf = s4 := congrArg Prod.snd e7
      subst e9
      refine .inr ⟨j1 i hlt, fun H' => ∃ acc avs S, Gm p.M Sb Hb S H' ∧ PotAt p s3 S H' ∧ S Dl = none ∧ H' Dl = some (.lst avs) ∧ All R' S acc avs ∧ avs.length ≤ i + 1 ∧ OwnOk p H' O ∧ rf = acc ++ rest', fun H' ⟨acc, avs, S, h1, h2, h3, h4, h5, h6, h7, h8⟩ => ⟨xs.length - (i + 1), by omega, rfl, hlt, acc, avs, rest', S, s3, h1, h2, h3, h4, h5, h6, h7, e5, h8⟩, fun v H3 y => ?_⟩
      obtain ⟨S3, g3, r3⟩ := j3 i xs[i] v H3 (List.getElem?_eq_getElem hlt) y
      have gA : Gm p.M S H S3 H3 := (g1.tr g2).tr g3.up
      refine ht xs[i] v (wipe σ vs) S3 H3 _ g3.i r3 fun σ3 hp => ⟨hw _ _ _ hp, ?_⟩
      refine hc xs[i] σ3 S3 H3 gA hp S3 H3 s2 (Gm.rf g3.i) (p2.go g3) _ (o, s3) e3 _ fun b S4 H4 s4 g4 p4 hm4 => ?_
      have d4 : H4 Dl = some (.lst avs) := g4.h _ _ oM (g3.h _ _ (by simp) d2)
      have n4 : S4 Dl = none := g4.f _ _ (g3.h _ _ (by simp) d2) (g3.f _ _ d2 n2)
      have a4 := a2.mo (g3.s.tr g4.s)
      cases b with
      | true =>
        refine iteT (he xs[i] σ3 S4 H4 (gA.tr g4) (hP _ _ _ _ _ g4.s hp) S4 H4 s4 (Gm.rf g4.i) p4 _ (o, s3) (by simpa using hm4) _ fun c u S5 H5 s5 g5 p5 r5 hm5 => ?_)
        have e10 := run_of_pure hm5
        have e11 : o = some c := congrArg Prod.fst e10
        have e12 : s3 = s5 := congrArg Prod.snd e10
        subst e11
        subst e12
        have d5 : H5 Dl = some (.lst avs) := g5.h _ _ oM d4
        have n5 : S5 Dl = none := g5.f _ _ d4 n4
        refine ⟨avs, d5, by rw [sizeLine_eq]; omega, acc ++ [c], avs ++ [u], S5, ?_, p5.put oM, n5, upd_same, (a4.mo g5.s).app (.cons r5 .nil), by simp; omega, (((o2.go g3.up).go g4).go g5).put oD, ?_⟩
        · exact (((g2.tr g3.up).tr g4).tr g5).put hD n5
        · rw [er, e8]; simp [cns]
      | false =>
        have e10 := run_of_pure (show Mir.run (pure none : μ (Option γ)) s4 = some (o, s3) by simpa using hm4)
        have e11 : o = none := congrArg Prod.fst e10
        have e12 : s3 = s4 := congrArg Prod.snd e10
        subst e11
        subst e12
        exact iteF ⟨acc, avs, S4, (g2.tr g3.up).tr g4, p4, n4, d4, a4, by omega, (o2.go g3.up).go g4, by rw [er, e8]; rfl⟩
    · have ei : i = xs.length := by omega
      subst ei
      rw [List.drop_length] at r2
      have e3 := run_of_pure (show Mir.run (pure [] : μ (List γ)) s2 = some (rest, sf) from r2)
      have e4 : rest = [] := congrArg Prod.fst e3
      have e5 : sf = s2 := congrArg Prod.snd e3
      subst e4
      subst e5
      rw [List.append_nil] at er
      subst er
      exact .inl ⟨j2, q Dl avs S2 H2 g2 p2 hD d2 n2 oM a2⟩
theorem l_lc {wi : TI} {g : TG} {vs : List Nat} {O : Own} {mi : (List α → μ β) → μ β} {R : Rp α} {P : α → St → St → Hp → Prop} {R' : Rp γ} [Mo R'] {mt : α → (Bool → μ (Option γ)) → μ (Option γ)} {me : α → (γ → μ (Option γ)) → μ (Option γ)}
    (hi : EvI p wi σ S H mi R O) (ho : OwnOk p H O) (ht : Tg g R P) (hw : ∀ x σ' S, P x (wipe σ vs) σ' S → wipe σ' vs = wipe σ vs)
    (hc : ∀ x σ' S1 H1, Gm p.M S H S1 H1 → P x (wipe σ vs) σ' S1 → EvT p tt σ' S1 H1 (mt x))
    (he : ∀ x σ' S1 H1, Gm p.M S H S1 H1 → P x (wipe σ vs) σ' S1 → Ev p te σ' S1 H1 (me x) R') (hP : PMo P) :
    EvL p (tLc wi g tt te vs) σ S H (fun k => mi fun xs => Mir.lft (grd (xs.length ≤ 16000000)) >>= fun _ => cmp xs (fun x => mt x fun b => if b = true then me x fun y => pure (some y) else pure none) >>= k) (aAll R') := fun S1 H1 s g1 ps k z hm Q q =>
  hi S1 H1 s g1 ps _ z hm _ fun xs J Sb Hb sb gb pb hJ hmb => by
    obtain ⟨_, el, hmb⟩ := run_of_lft hmb
    have hl := grd_of el
    obtain ⟨rf, sf, e1, e2⟩ := run_of_bind hmb
    exact lc_go (g1.tr gb) pb hJ hl ho ht hw hc he hP e1 fun x us S2 H2 g2 p2 n e n2 m2 a2 => by
      have n1 : H1 x = none := by
        cases e : H1 x with
        | none => rfl
        | some u => obtain ⟨u', e'⟩ := gb.t x u e; rw [n] at e'; cases e'
      exact q rf x us S2 H2 sf (gb.tr g2) p2 n1 e n2 m2 a2 e2
/-- without a test -/
theorem l_lc1 {wi : TI} {g : TG} {vs : List Nat} {O : Own} {mi : (List α → μ β) → μ β} {R : Rp α} {P : α → St → St → Hp → Prop} {R' : Rp γ} [Mo R'] {me : α → (γ → μ (Option γ)) → μ (Option γ)}
    (hi : EvI p wi σ S H mi R O) (ho : OwnOk p H O) (ht : Tg g R P) (hw : ∀ x σ' S, P x (wipe σ vs) σ' S → wipe σ' vs = wipe σ vs)
    (he : ∀ x σ' S1 H1, Gm p.M S H S1 H1 → P x (wipe σ vs) σ' S1 → Ev p te σ' S1 H1 (me x) R') (hP : PMo P) :
    EvL p (tLc wi g tYes te vs) σ S H (fun k => mi fun xs => Mir.lft (grd (xs.length ≤ 16000000)) >>= fun _ => cmp xs (fun x => me x fun y => pure (some y)) >>= k) (aAll R') :=
  l_lc (mt := fun _ k => k true) hi ho ht hw (fun _ _ _ _ _ _ => fun S1 H1 s g ps k z hm Q q => q true S1 H1 s (Gm.rf g.i) ps hm) he hP
/-- the test and the item are asked without a condition -/
theorem cmp_all {t : α → Bool} {f : α → γ} : ∀ (xs : List α) (s : τ), Mir.run (cmp (μ := μ) xs fun x => if t x = true then pure (some (f x)) else pure none) s = some ((xs.filter t).map f, s)
  | [], s => Mir.run_pure _ _
  | x :: xs, s => by
    show Mir.run ((if t x = true then pure (some (f x)) else pure none) >>= fun o => cmp (μ := μ) xs _ >>= fun r => pure (cns o r)) s = _
    have e : (if t x = true then pure (some (f x)) else pure none : μ (Option γ)) = pure (if t x = true then some (f x) else none) := by split <;> rfl
    rw [e, Mir.run_bind, Mir.run_pure]
    show Mir.run (cmp (μ := μ) xs _ >>= fun r => pure (cns _ r)) s = _
    rw [Mir.run_bind, cmp_all xs s]
    show Mir.run (pure _ : μ (List γ)) s = _
    rw [Mir.run_pure]
    cases h : t x with
    | true => simp [cns, List.filter_cons, h]
    | false => simp [cns, List.filter_cons, h]
theorem l_lcT {wi : TI} {g : TG} {vs : List Nat} {O : Own} {mi : (List α → μ β) → μ β} {R : Rp α} {P : α → St → St → Hp → Prop} {R' : Rp γ} [Mo R'] {t : α → Bool} {f : α → γ}
    (hi : EvI p wi σ S H mi R O) (ho : OwnOk p H O) (ht : Tg g R P) (hw : ∀ x σ' S, P x (wipe σ vs) σ' S → wipe σ' vs = wipe σ vs)
    (hc : ∀ x σ' S1 H1, Gm p.M S H S1 H1 → P x (wipe σ vs) σ' S1 → EvT (μ := μ) (β := Option γ) p tt σ' S1 H1 (fun k => k (t x)))
    (he : ∀ x σ' S1 H1, Gm p.M S H S1 H1 → P x (wipe σ vs) σ' S1 → Ev (μ := μ) (β := Option γ) p te σ' S1 H1 (fun k => k (f x)) R') (hP : PMo P) :
    EvL p (tLc wi g tt te vs) σ S H (fun k => mi fun xs => Mir.lft (grd (xs.length ≤ 16000000)) >>= fun _ => k ((xs.filter t).map f)) (aAll R') := fun S1 H1 s g1 ps k z hm Q q =>
  hi S1 H1 s g1 ps _ z hm _ fun xs J Sb Hb sb gb pb hJ hmb => by
    obtain ⟨_, el, hmb⟩ := run_of_lft hmb
    exact lc_go (mt := fun x k => k (t x)) (me := fun x k => k (f x)) (g1.tr gb) pb hJ (grd_of el) ho ht hw hc he hP (cmp_all xs sb) fun x us S2 H2 g2 p2 n e n2 m2 a2 => by
      have n1 : H1 x = none := by
        cases e : H1 x with
        | none => rfl
        | some u => obtain ⟨u', e'⟩ := gb.t x u e; rw [n] at e'; cases e'
      exact q _ x us S2 H2 sb (gb.tr g2) p2 n1 e n2 m2 a2 hmb
theorem filter_T (xs : List α) : (xs.filter fun _ => true) = xs := List.filter_eq_self.mpr fun _ _ => rfl
theorem l_lc1T {wi : TI} {g : TG} {vs : List Nat} {O : Own} {mi : (List α → μ β) → μ β} {R : Rp α} {P : α → St → St → Hp → Prop} {R' : Rp γ} [Mo R'] {f : α → γ}
    (hi : EvI p wi σ S H mi R O) (ho : OwnOk p H O) (ht : Tg g R P) (hw : ∀ x σ' S, P x (wipe σ vs) σ' S → wipe σ' vs = wipe σ vs)
    (he : ∀ x σ' S1 H1, Gm p.M S H S1 H1 → P x (wipe σ vs) σ' S1 → Ev (μ := μ) (β := Option γ) p te σ' S1 H1 (fun k => k (f x)) R') (hP : PMo P) :
    EvL p (tLc wi g tYes te vs) σ S H (fun k => mi fun xs => Mir.lft (grd (xs.length ≤ 16000000)) >>= fun _ => k (xs.map f)) (aAll R') := fun S1 H1 s g1 ps k z hm Q q =>
  hi S1 H1 s g1 ps _ z hm _ fun xs J Sb Hb sb gb pb hJ hmb => by
    obtain ⟨_, el, hmb⟩ := run_of_lft hmb
    have ec := cmp_all (μ := μ) (t := fun _ => true) (f := f) xs sb
    rw [filter_T] at ec
    exact lc_go (mt := fun x k => k true) (me := fun x k => k (f x)) (g1.tr gb) pb hJ (grd_of el) ho ht hw (fun _ _ _ _ _ _ => fun S1 H1 s g ps k z hm Q q => q true S1 H1 s (Gm.rf g.i) ps hm) he hP ec fun x us S2 H2 g2 p2 n e n2 m2 a2 => by
      have n1 : H1 x = none := by
        cases e : H1 x with
        | none => rfl
        | some u => obtain ⟨u', e'⟩ := gb.t x u e; rw [n] at e'; cases e'
      exact q _ x us S2 H2 sb (gb.tr g2) p2 n1 e n2 m2 a2 hmb
end
end Wk
set_option Elab.async false
set_option maxRecDepth 100000
set_option maxHeartbeats 4000000
set_option linter.all false
/-! W3: defs whose callers show nothing (guards known), promises by mirrors, calls -/
namespace Wk
open PySem L2
open PyProof.Rows hiding St

/-- a def keeps its promise wherever no repr is under way -/
structure FnG (P : Program) (w : World) (K : PySem.W.Frag) (mg : Str → Option Value) (base : Heap) (CX : CXT) (k : Nat) (f : Addr) (fd : FuncData) (ps : List Str) (sp : Sp) : Prop where
  len : ∀ vs H Q E, sp vs H Q E → vs.length = ps.length
  run : ∀ (A : Around) (outer : List Env) (s : Shared) (H : Hp) (args : Args) (us : List Value) (vs : List V) (Q : VK) (E : XK),
    Room k A → A.guards = some [] → Env0 P w K mg base A outer s H → BindsTo s fd args (ps.zip us) → Vals vs us → sp vs H Q E →
    codeAny (model P w) A (.call (.ref f) args) (CR CX outer P w H s Q E) s
theorem FnG.up {P : Program} {w : World} {K : PySem.W.Frag} {mg : Str → Option Value} {base : Heap} {CX : CXT} {j k : Nat} {f : Addr} {fd : FuncData} {ps : List Str} {sp : Sp}
    (F : FnG P w K mg base CX j f fd ps sp) (h : j ≤ k) : FnG P w K mg base CX k f fd ps sp :=
  ⟨F.len, fun A o s H a us vs Q E hr => F.run A o s H a us vs Q E (hr.mono h)⟩
section
variable {P : Program} {w : World} {K : PySem.W.Frag} {mg : Str → Option Value} {base : Heap}
/-- a def by its body -/
theorem okG {CX : CXT} {x qual : Str} {st : Stmt} {f : Addr} {fd : FuncData} {N ps : List Str} {k : Nat} {sp : Sp} (F : Fun K x qual st f fd) (Sc : FnScope N ps (defScope st))
    (len : ∀ vs H Q E, sp vs H Q E → vs.length = ps.length)
    (body : ∀ (cdv : Value) (A : Around) (outer : List Env) (s : Shared) (H : Hp) (vs : List V) (Q : VK) (E : XK),
      Room k (A.deeper (envOfC qual (defScope st) s.heap.objs.size f cdv)) → A.guards = some [] → sp vs H Q E →
      ∃ t, PSs (cxOf CX P w K mg base N qual (defScope st) f cdv A outer s H E) (defBody st) t ∧ t { nx := fun _ H' => Q .non H', rt := Q } (start N vs) H) :
    FnG P w K mg base CX (k + 1) f fd ps sp := by
  obtain ⟨oc, od, kV, doc, pm, an, cdv, ct, osl, rfl, lk, hcd⟩ := F.ex
  constructor
  · exact len
  intro A outer s H args us vs Q E room gd e0 hb rv hsp
  have inK : K.In s.heap := e0.mod.kin.keeps (fun b o e => (e0.bs b o e).1)
  have noLim : s.heap.NoLimit := e0.mod.nolimit.keeps (fun b o e => (e0.bs b o e).1)
  have kinds : ∀ y ∈ ps.zip us, (defScope st).names.lookup y.1 = some .local ∨
      ((defScope st).names.lookup y.1 = some .cell ∧ ((cellsFrom (s.heap.objs.size + 1) (defScope st).names []).lookup y.1).isSome = true) := by
    rintro ⟨nm, vl⟩ hy
    cases Sc.par nm (List.of_mem_zip hy).1 with
    | inl q => exact Or.inl q
    | inr q => exact Or.inr ⟨q, PySem.W.cellsFrom_some _ _ _ (Or.inl q)⟩
  apply codeAny_call_function room.depth (inK _ _ lk) rfl Sc.co Sc.gen rfl (PySem.W.codeRec_of inK hcd)
  apply hb
  apply wpAny_newFunctionEnv_cells Sc.kind kinds
  intro env he s1 x
  subst he
  constructor
  · exact noLim.keeps x.toInCall.keep
  apply codeAny_func
  obtain ⟨t, ht, hq⟩ := body cdv A outer s H vs Q E (room.deeper _) gd hsp
  have I0 := inv_start (CX := CX) (E := E) (cd := cdv) (f := f) (qual := qual) Sc room.hd e0 (len _ _ _ _ hsp) rv x
  refine wpAny_mono (ht.run [] s1 (start N vs) H _ I0 hq) ?_ (fun e s' hs => hs)
  intro fl s' hs
  cases fl with
  | ret u =>
    obtain ⟨v, σ', H', J, r1, q⟩ := hs
    exact ⟨v, H', J.os, J.bare, J.base, J.hok, r1, q⟩
  | next =>
    obtain ⟨σ', H', J, q⟩ := hs
    exact ⟨V.non, H', J.os, J.bare, J.base, J.hok, rfl, q⟩
  | brk =>
    obtain ⟨σ', H', J, q⟩ := hs
    exact q.elim
  | cont =>
    obtain ⟨σ', H', J, q⟩ := hs
    exact q.elim
/-- .. that lets nothing out -/
theorem okG0 {x qual : Str} {st : Stmt} {f : Addr} {fd : FuncData} {N ps : List Str} {k : Nat} {sp : Sp} (F : Fun K x qual st f fd) (Sc : FnScope N ps (defScope st))
    (len : ∀ vs H Q E, sp vs H Q E → vs.length = ps.length)
    (body : ∀ (cdv : Value) (A : Around) (outer : List Env) (s : Shared) (H : Hp) (vs : List V) (Q : VK) (E : XK),
      Room k (A.deeper (envOfC qual (defScope st) s.heap.objs.size f cdv)) → A.guards = some [] → sp vs H Q E →
      ∃ t, PSs (cxOf CX0 P w K mg base N qual (defScope st) f cdv A outer s H E).nox (defBody st) t ∧ t { nx := fun _ H' => Q .non H', rt := Q } (start N vs) H) :
    FnG P w K mg base CX0 (k + 1) f fd ps sp := okG F Sc len fun cdv A outer s H vs Q E hr gd h => by
  obtain ⟨t, h1, h2⟩ := body cdv A outer s H vs Q E hr gd h
  exact ⟨t, h1.nox, h2⟩
end

/-! ### calls -/
section
variable {X : Cx} {CX : CXT} {k n : Nat} {f : Addr} {fd : FuncData} {ps ks : List Str} {sp : Sp} {E : XK} {x : Str} {p pos : Pos} {e : Expr} {es : List Expr} {kws : List Keyword} {t tk : TA}
/-- what a callee's run gives to its caller -/
theorem end_G {pins : List (Addr × Obj)} {σ : St} {H : Hp} {s s' : Shared} {Q : VK} {r : Result} (hx : Passes CX X E) (I : Inv X pins σ H s) (h : CR CX X.stack X.prog X.w H s Q E r s') :
    match r with | .ok (.ret u) => EP X pins σ Q u s' | .ok _ => False | .error e => X.xe e s' := by
  match r, h with
  | .ok (.ret u), h => exact I.after h
  | .error e, h => exact hx pins σ H s e s' I h
theorem run_G {pins : List (Addr × Obj)} {σ : St} {H : Hp} {s : Shared} {Q : VK} {us : List Value} {vs : List V} (F : FnG X.prog X.w X.K X.mg X.base CX k f fd ps sp) (hr : Room k X.A) (gd : X.A.guards = some [])
    (hb : Binds X.K fd ps []) (hx : Passes CX X E) (I : Inv X pins σ H s) (r : Vals vs us) (h : sp vs H Q E) : wpAny (model X.prog X.w) X.A (call (.ref f) us) (EP X pins σ Q) X.xe s := by
  have hl : (us ++ []).length = ps.length := by
    rw [List.append_nil, ← r.length]
    exact F.len _ _ _ _ h
  have hb' := hb s us I.kIn hl
  rw [List.append_nil] at hb'
  refine wpAny_call (codeAny_mono (F.run X.A X.stack s H ⟨us, []⟩ us vs Q E hr gd I.env0 hb' r h) fun res s' hq => ?_)
  have q := end_G hx I hq
  cases res with
  | error er => exact q
  | ok fl => cases fl <;> first | exact q | exact q.elim
theorem pe_cG (F : FnG X.prog X.w X.K X.mg X.base CX k f fd ps sp) (hr : Room k X.A) (gd : X.A.guards = some []) (hg : Gl X x) (hm : X.mg x = some (.ref f)) (hk : PySem.W.keepIn X.K (.ref f) = true) (hb : Binds X.K fd ps []) (hx : Passes CX X E)
    (ha : PA X (e :: es) t) (hdb : (x == ("__debug__" : Str)) = false := by decide) (he : starEach (e :: es) X.env = (false, eval e X.env) :: starEach es X.env := by rfl) (hpl : (backTo pos (starEach es X.env)).any (·.1) = false := by rfl) :
    PE X (.Call (.Name x p) (e :: es) [] pos) (tCall sp [] E t) := by
  constructor
  intro pins s σ H Q I h
  apply wpAny_Call_Name_kw
  apply ld_glob I hg hm _ hdb
  apply PySem.W.callWith_K (h₀ := X.base) I.ok.mod.kin hk _ he hpl
  refine thn (ha.run pos pins s σ H _ I h) ?_
  rintro us s1 ⟨vs, H1, I1, r, q⟩
  refine ⟨I1.kIn, run_G F hr gd hb hx I1 r ?_⟩
  rw [List.append_nil] at q
  exact q
theorem pe_cG0 (F : FnG X.prog X.w X.K X.mg X.base CX k f fd ps sp) (hr : Room k X.A) (gd : X.A.guards = some []) (hg : Gl X x) (hm : X.mg x = some (.ref f)) (hk : PySem.W.keepIn X.K (.ref f) = true) (hb : Binds X.K fd ps []) (hx : Passes CX X E)
    (hdb : (x == ("__debug__" : Str)) = false := by decide) : PE X (.Call (.Name x p) [] [] pos) (tCall sp [] E tNil) := by
  constructor
  intro pins s σ H Q I h
  apply wpAny_Call_Name_kw
  apply ld_glob I hg hm _ hdb
  apply PySem.W.callWith_K0 I.kIn hk
  exact run_G (us := []) (vs := []) F hr gd hb hx I .nil h
theorem pick_vals {vs : List V} {us : List Value} (r : Vals vs us) : ∀ ix : List Nat, Vals (pick ix vs) (pick ix us)
  | [] => .nil
  | i :: ix => by
    have h := pick_vals r ix
    unfold pick at h ⊢
    rw [List.filterMap_cons, List.filterMap_cons]
    cases e : vs[i]? with
    | none =>
      rw [r.none_of e]
      exact h
    | some v =>
      obtain ⟨u, e2, r2⟩ := r.get e
      rw [e2]
      exact .cons r2 h
/-- how names are bound where some are given by keywords: n by place, those of ks by name; ix tells the parameters' order -/
def KB (K : PySem.W.Frag) (fd : FuncData) (ps : List Str) (n : Nat) (ks : List Str) (ix : List Nat) : Prop :=
  ∀ (s : Shared) (us ws : List Value), K.In s.heap → us.length = n → ws.length = ks.length → BindsTo s fd ⟨us, ks.zip ws⟩ (ps.zip (pick ix (us ++ ws)))
def tCallG (n m : Nat) (ix : List Nat) (sp : Sp) (E : XK) (t tk : TA) : TE := fun σ H Q => t σ H fun vs H1 => tk σ H1 fun zs H2 => vs.length = n ∧ zs.length = m ∧ sp (pick ix (vs ++ zs)) H2 Q E
theorem run_Gk {pins : List (Addr × Obj)} {σ : St} {H : Hp} {s : Shared} {Q : VK} {ix : List Nat} {us ws : List Value} {vs zs : List V} (F : FnG X.prog X.w X.K X.mg X.base CX k f fd ps sp) (hr : Room k X.A) (gd : X.A.guards = some [])
    (hb : KB X.K fd ps n ks ix) (hx : Passes CX X E) (I : Inv X pins σ H s) (r : Vals vs us) (rz : Vals zs ws) (l1 : vs.length = n) (l2 : zs.length = ks.length) (h : sp (pick ix (vs ++ zs)) H Q E) :
    wpAny (model X.prog X.w) X.A (call (.ref f) us (ks.zip ws)) (EP X pins σ Q) X.xe s := by
  have hb' := hb s us ws I.kIn (r.length.symm.trans l1) (rz.length.symm.trans l2)
  refine wpAny_call (codeAny_mono (F.run X.A X.stack s H ⟨us, ks.zip ws⟩ _ _ Q E hr gd I.env0 hb' (pick_vals (r.append rz) ix) h) fun res s' hq => ?_)
  have q := end_G hx I hq
  cases res with
  | error er => exact q
  | ok fl => cases fl <;> first | exact q | exact q.elim
theorem pe_cGK {ix : List Nat} (F : FnG X.prog X.w X.K X.mg X.base CX k f fd ps sp) (hr : Room k X.A) (gd : X.A.guards = some []) (hg : Gl X x) (hm : X.mg x = some (.ref f)) (hk : PySem.W.keepIn X.K (.ref f) = true) (hb : KB X.K fd ps n ks ix) (hx : Passes CX X E)
    (ha : PA X (e :: es) t) (hkw : PK X kws tk) (hall : (backToKw pos (keywordEach kws X.env)).all (·.1.isSome) = true := by rfl) (hks : (backToKw pos (keywordEach kws X.env)).filterMap (·.1) = ks := by rfl)
    (hdb : (x == ("__debug__" : Str)) = false := by decide) (he : starEach (e :: es) X.env = (false, eval e X.env) :: starEach es X.env := by rfl)
    (hpl : ((backTo pos (starEach (e :: es) X.env)).any (·.1) || (backToKw pos (keywordEach kws X.env)).any (·.1.isNone)) = false := by rfl) :
    PE X (.Call (.Name x p) (e :: es) kws pos) (tCallG n ks.length ix sp E t tk) := by
  constructor
  intro pins s σ H Q I h
  apply wpAny_Call_Name_kw
  apply ld_glob I hg hm _ hdb
  refine PySem.W.callWith_KW (h₀ := X.base) I.ok.mod.kin hk hall (thn (ha.run pos pins s σ H _ I h) ?_) hpl he
  rintro us s1 ⟨vs, H1, I1, r, q⟩
  refine thn (hkw.run pos pins s1 σ H1 _ I1 q) ?_
  rintro ws s2 ⟨zs, H2, I2, rz, l1, l2, q2⟩
  refine ⟨I2.kIn, ?_⟩
  rw [hks]
  exact run_Gk F hr gd hb hx I2 r rz l1 l2 q2
theorem pe_cGK0 {ix : List Nat} (F : FnG X.prog X.w X.K X.mg X.base CX k f fd ps sp) (hr : Room k X.A) (gd : X.A.guards = some []) (hg : Gl X x) (hm : X.mg x = some (.ref f)) (hk : PySem.W.keepIn X.K (.ref f) = true) (hb : KB X.K fd ps 0 ks ix) (hx : Passes CX X E)
    (hkw : PK X kws tk) (hall : (backToKw pos (keywordEach kws X.env)).all (·.1.isSome) = true := by rfl) (hks : (backToKw pos (keywordEach kws X.env)).filterMap (·.1) = ks := by rfl)
    (hdb : (x == ("__debug__" : Str)) = false := by decide)
    (hpl : ((backTo pos (starEach [] X.env)).any (·.1) || (backToKw pos (keywordEach kws X.env)).any (·.1.isNone)) = false := by rfl) :
    PE X (.Call (.Name x p) [] kws pos) (tCallG 0 ks.length ix sp E tNil tk) := by
  constructor
  intro pins s σ H Q I h
  apply wpAny_Call_Name_kw
  apply ld_glob I hg hm _ hdb
  have h' : tk σ H (fun zs H2 => ([] : List V).length = 0 ∧ zs.length = ks.length ∧ sp (pick ix ([] ++ zs)) H2 Q E) := h
  refine PySem.W.callWith_KW0 (h₀ := X.base) I.ok.mod.kin hk hall (thn (hkw.run pos pins s σ H _ I h') ?_) hpl
  rintro ws s2 ⟨zs, H2, I2, rz, l1, l2, q2⟩
  refine ⟨I2.kIn, ?_⟩
  rw [hks]
  exact run_Gk (us := []) (vs := []) F hr gd hb hx I2 .nil rz l1 l2 q2
end

/-! ### promises by mirrors -/
section
variable {μ : Type → Type} {τ : Type} [Mir μ τ] {ν : Type → Type} {υ : Type} [Mir ν υ] {ι α β γ δ ρ : Type} {p : Pt τ} {σ : St} {S H S0 H0 : Hp} {te ta tb : TE} {tt : TT} {K : PySem.W.Frag}
/-- what stays comes back -/
def spV (F : ι → Pt τ) (fm : α → μ ρ) (A : ι → Rq α) (R : Rp ρ) : Sp := fun vs H Q _ => ∃ i a S s r s', Ex S H ∧ PotAt (F i) s S H ∧ A i a vs S ∧ Mir.run (fm a) s = some (r, s') ∧
  ∀ v S' H', Gm (F i).M S H S' H' → PotAt (F i) s' S' H' → R r v S' → Q v H'
/-- a new list comes back -/
def spN (F : ι → Pt τ) (fm : α → μ ρ) (A : ι → Rq α) (R : Rq ρ) : Sp := fun vs H Q _ => ∃ i a S s r s', Ex S H ∧ PotAt (F i) s S H ∧ A i a vs S ∧ Mir.run (fm a) s = some (r, s') ∧
  ∀ q us S' H', Gm (F i).M S H S' H' → PotAt (F i) s' S' H' → H q = none → H' q = some (.lst us) → S' q = none → R r us S' → Q (.ref q) H'
def F0 : Unit → Pt Unit := fun _ => pt0
theorem pot0' {S H : Hp} {s : Unit} : PotAt pt0 s S H := fun _ h => nomatch h
/-- a pure def's call -/
theorem e_call {fm : α → Option ρ} {A : Rq α} {R : Rp ρ} {t : TA} {E : XK} {m : (α → μ β) → μ β} (h : EvA p t σ S H m A) : Ev p (tCall (spV F0 fm (fun _ => A) R) [] E t) σ S H (fun k => m fun a => Mir.lft (fm a) >>= k) R := fun S1 H1 s g ps k z hm Q q =>
  h S1 H1 s g ps _ z hm _ fun a vs S2 H2 s2 g2 p2 r hm2 => by
    obtain ⟨b, e, hm3⟩ := run_of_lft hm2
    refine ⟨(), a, S2, (), b, (), g2.i, pot0', by rw [List.append_nil]; exact r, by show (fm a).map _ = _; rw [e]; rfl, fun v S' H' g3 _ r3 => ?_⟩
    exact q b v S' H' s2 (g2.tr (Gm.up g3)) (p2.go g3) r3 hm3
theorem l_call {fm : α → Option ρ} {A : Rq α} {R : Rq ρ} {t : TA} {E : XK} {m : (α → μ β) → μ β} (h : EvA p t σ S H m A) : EvL p (tCall (spN F0 fm (fun _ => A) R) [] E t) σ S H (fun k => m fun a => Mir.lft (fm a) >>= k) R := fun S1 H1 s g ps k z hm Q q =>
  h S1 H1 s g ps _ z hm _ fun a vs S2 H2 s2 g2 p2 r hm2 => by
    obtain ⟨b, e, hm3⟩ := run_of_lft hm2
    refine ⟨(), a, S2, (), b, (), g2.i, pot0', by rw [List.append_nil]; exact r, by show (fm a).map _ = _; rw [e]; rfl, fun x us S' H' g3 _ n e3 n3 r3 => ?_⟩
    have n1 : H1 x = none := by
      cases e : H1 x with
      | none => rfl
      | some u => obtain ⟨u', e'⟩ := g2.t x u e; rw [n] at e'; cases e'
    exact q b x us S' H' s2 (g2.tr (Gm.up g3)) (p2.go g3) n1 e3 n3 (new_nM p2 n) r3 hm3
/-- a def that changes the lot -/
theorem e_callP {F : ι → Pt τ} {i : ι} {fm : α → μ ρ} {A : ι → Rq α} {R : Rp ρ} {t : TA} {E : XK} {m : (α → μ β) → μ β} (h : EvA (F i) t σ S H m (A i)) : Ev (F i) (tCall (spV F fm A R) [] E t) σ S H (fun k => m fun a => fm a >>= k) R := fun S1 H1 s g ps k z hm Q q =>
  h S1 H1 s g ps _ z hm _ fun a vs S2 H2 s2 g2 p2 r hm2 => by
    obtain ⟨b, s3, e, hm3⟩ := run_of_bind hm2
    refine ⟨i, a, S2, s2, b, s3, g2.i, p2, by rw [List.append_nil]; exact r, e, fun v S' H' g3 p3 r3 => ?_⟩
    exact q b v S' H' s3 (g2.tr g3) p3 r3 hm3
theorem l_callP {F : ι → Pt τ} {i : ι} {fm : α → μ ρ} {A : ι → Rq α} {R : Rq ρ} {t : TA} {E : XK} {m : (α → μ β) → μ β} (h : EvA (F i) t σ S H m (A i)) : EvL (F i) (tCall (spN F fm A R) [] E t) σ S H (fun k => m fun a => fm a >>= k) R := fun S1 H1 s g ps k z hm Q q =>
  h S1 H1 s g ps _ z hm _ fun a vs S2 H2 s2 g2 p2 r hm2 => by
    obtain ⟨b, s3, e, hm3⟩ := run_of_bind hm2
    refine ⟨i, a, S2, s2, b, s3, g2.i, p2, by rw [List.append_nil]; exact r, e, fun x us S' H' g3 p3 n e3 n3 r3 => ?_⟩
    have n1 : H1 x = none := by
      cases e : H1 x with
      | none => rfl
      | some u => obtain ⟨u', e'⟩ := g2.t x u e; rw [n] at e'; cases e'
    exact q b x us S' H' s3 (g2.tr g3) p3 n1 e3 n3 (new_nM p2 n) r3 hm3
/-- by keywords -/
theorem e_callK {n m' : Nat} {ix : List Nat} {fm : α → Option ρ} {A : Rq α} {A1 : Rq γ} {A2 : Rq δ} {R : Rp ρ} {t tk : TA} {E : XK} {m1 : (γ → μ β) → μ β} {m2 : (δ → μ β) → μ β} (π : γ → δ → α) (h1 : EvA p t σ S H m1 A1) (h2 : EvA p tk σ S H m2 A2) [Mo A1]
    (hπ : ∀ a b vs zs S, A1 a vs S → A2 b zs S → vs.length = n ∧ zs.length = m' ∧ A (π a b) (pick ix (vs ++ zs)) S) : Ev p (tCallG n m' ix (spV F0 fm (fun _ => A) R) E t tk) σ S H (fun k => m1 fun a => m2 fun b => Mir.lft (fm (π a b)) >>= k) R := fun S1 H1 s g ps k z hm Q q =>
  h1 S1 H1 s g ps _ z hm _ fun a vs S2 H2 s2 g2 p2 r hm2 => h2 S2 H2 s2 (g.tr g2) p2 _ z hm2 _ fun b zs S3 H3 s3 g3 p3 r3 hm3 => by
    obtain ⟨c, e, hm4⟩ := run_of_lft hm3
    obtain ⟨l1, l2, r4⟩ := hπ a b vs zs S3 (Mo.mo g3.s r) r3
    refine ⟨l1, l2, (), π a b, S3, (), c, (), g3.i, pot0', r4, by show (fm _).map _ = _; rw [e]; rfl, fun v S' H' g4 _ r5 => ?_⟩
    exact q c v S' H' s3 ((g2.tr g3).tr (Gm.up g4)) (p3.go g4) r5 hm4
theorem l_callK {n m' : Nat} {ix : List Nat} {fm : α → Option ρ} {A : Rq α} {A1 : Rq γ} {A2 : Rq δ} {R : Rq ρ} {t tk : TA} {E : XK} {m1 : (γ → μ β) → μ β} {m2 : (δ → μ β) → μ β} (π : γ → δ → α) (h1 : EvA p t σ S H m1 A1) (h2 : EvA p tk σ S H m2 A2) [Mo A1]
    (hπ : ∀ a b vs zs S, A1 a vs S → A2 b zs S → vs.length = n ∧ zs.length = m' ∧ A (π a b) (pick ix (vs ++ zs)) S) : EvL p (tCallG n m' ix (spN F0 fm (fun _ => A) R) E t tk) σ S H (fun k => m1 fun a => m2 fun b => Mir.lft (fm (π a b)) >>= k) R := fun S1 H1 s g ps k z hm Q q =>
  h1 S1 H1 s g ps _ z hm _ fun a vs S2 H2 s2 g2 p2 r hm2 => h2 S2 H2 s2 (g.tr g2) p2 _ z hm2 _ fun b zs S3 H3 s3 g3 p3 r3 hm3 => by
    obtain ⟨c, e, hm4⟩ := run_of_lft hm3
    obtain ⟨l1, l2, r4⟩ := hπ a b vs zs S3 (Mo.mo g3.s r) r3
    refine ⟨l1, l2, (), π a b, S3, (), c, (), g3.i, pot0', r4, by show (fm _).map _ = _; rw [e]; rfl, fun x us S' H' g4 _ n e3 n3 r5 => ?_⟩
    have n1 : H1 x = none := by
      cases e : H1 x with
      | none => rfl
      | some u => obtain ⟨u', e'⟩ := (g2.tr g3).t x u e; rw [n] at e'; cases e'
    exact q c x us S' H' s3 ((g2.tr g3).tr (Gm.up g4)) (p3.go g4) n1 e3 n3 (new_nM p3 n) r5 hm4
end

/-! ### the law's end -/
theorem vals_ints' {vs : List Value} {ns : List Int} (h : IntsAre vs ns) : Vals (ns.map V.int) vs := vals_ints h
/-- the head's goal, from the law's promise: as the layer's own, guards told -/
theorem law_G {P : Program} {w : World} {K : PySem.W.Frag} {mg mb : Str → Option Value} {CX : CXT} {k : Nat} {fa a : Addr} {fd : FuncData} {x : Str} {sp : Sp} {s₁ : Shared} {vs : List Value} {ns : List Int}
    (KX : K.In s₁.heap) (hns : s₁.heap.Ns mainGlobals mg) (hdg : s₁.heap.NoDigits) (hb : s₁.heap.Ns builtinsNs mb) (hbb : ∀ x : Str, x ≠ "__name__" → mb x = bootBuiltins x) (hlim : s₁.heap.NoLimit) (hg : s₁.gens = #[])
    (ha : s₁.heap.get? a = some { cls := .type "list", data := .seq vs.toArray }) (hi : IntsAre vs ns) (hl : ns.length ≤ sizeLine) (hr : Room k callerA)
    (F : ∀ base : Heap, K.In base → base.Ns mainGlobals mg → base.NoDigits → FnG P w K mg base CX k fa fd [x] sp) (hbind : ∀ (s : Shared) (u : Value), BindsTo s fd ⟨[u], []⟩ [(x, u)])
    (hsp : ∀ H : Hp, SqL K H a (ns.map V.int) → sp [.ref a] H (fun v _ => v = .bl true) fun _ _ _ => False)
    (hCX : ∀ H e s', CX [] H s₁ (fun _ _ _ => False) e s' → False) :
    codeAny (model P w) callerA (.call (.ref fa) ⟨[.ref a], []⟩) (fun r s' => r = .ok (.ret (.bool true)) ∧ OldK s₁.heap s'.heap ∧ s'.os = s₁.os ∧ AllBare s'.gens) s₁ := by
  have rv := vals_ints hi
  have lenV := hi.length
  -- a heap that tracks at most the script
  let ob : Obj := { cls := .type "list", data := .seq vs.toArray }
  have go : ∀ H : Hp, (∀ b u, H b = some u → b = a ∧ u = .frz ob (.lst (ns.map V.int))) → SqL K H a (ns.map V.int) → (H a ≠ none → K.lookup a = none) →
      codeAny (model P w) callerA (.call (.ref fa) ⟨[.ref a], []⟩) (fun r s' => r = .ok (.ret (.bool true)) ∧ OldK s₁.heap s'.heap ∧ s'.os = s₁.os ∧ AllBare s'.gens) s₁ := by
    intro H only hS hK
    have ok : HOk P w H s₁.heap := by
      intro b u e
      obtain ⟨e1, e2⟩ := only b u e
      subst e1 e2
      exact ⟨ha, by rw [List.length_map]; exact hl, vs, 0, rv, ha⟩
    have free : ∀ {b : Addr} {o : Obj} {es : Array DictEntry} {ep : Nat}, s₁.heap.get? b = some o → o.data = .dict es ep → H b = none := by
      intro b o es ep e d
      cases q : H b with
      | none => rfl
      | some u =>
        obtain ⟨e1, _⟩ := only b u q
        subst e1
        rw [ha] at e
        cases e
        exact nomatch d
    have ns' : ∀ {b : Addr} {m : Str → Option Value}, s₁.heap.Ns b m → (hidT s₁.heap H).Ns b m := by
      rintro b m ⟨o, es, ep, e, d, r⟩
      exact ⟨o, es, ep, hidT_get e (free e d), d, r⟩
    have inB : K.In (hidT s₁.heap H) := by
      intro b o e
      apply hidT_get (KX b o e)
      cases q : H b with
      | none => rfl
      | some u =>
        obtain ⟨e1, _⟩ := only b u q
        subst e1
        rw [hK (by rw [q]; simp)] at e
        cases e
    have md : Mod K mg (hidT s₁.heap H) := ⟨inB, ns' hns, ⟨mb, ns' hb, hbb⟩, by obtain ⟨mc, h1, h2⟩ := hlim; exact ⟨mc, ns' h1, h2⟩⟩
    have none_in : ∀ b : Addr, b ∉ frs [] := fun b z => nomatch (show b ∈ ([] : List Addr) from z)
    have e0 : Env0 P w K mg (hidT s₁.heap H) callerA [] s₁ H :=
      ⟨rfl, md, fun b o e => of_hidT e, Nat.le_of_eq (hidT_size _ _), trivial, fun b hb => absurd hb (none_in b), ok, .of_eq hg⟩
    have run := (F _ inB (ns' hns) (let ⟨mc, h1, h2⟩ := hdg; ⟨mc, ns' h1, h2⟩)).run callerA [] s₁ H ⟨[.ref a], []⟩ [.ref a] [.ref a] _ _ hr rfl e0 (hbind s₁ (.ref a)) (.cons rfl .nil) (hsp H hS)
    refine codeAny_mono run ?_
    intro r s' h
    match r, h with
    | .error e, h => exact (hCX H e s' h).elim
    | .ok (.ret u), h =>
      obtain ⟨v, H', os, bare, un, ok', r', q⟩ := h
      have q' : v = .bl true := q
      subst q'
      have ru : u = Value.bool true := r'
      subst ru
      refine ⟨rfl, OldK.of_keep ?_, os, bare⟩
      intro b o e
      cases q : H b with
      | none => exact un.keep b o e q (none_in b) (by simp)
      | some u =>
        obtain ⟨e1, e2⟩ := only b u q
        subst e1 e2
        obtain ⟨g1, _⟩ := ok' _ _ (un.frzs _ _ _ q)
        rw [ha] at e
        cases e
        exact g1
  cases hk : K.lookup a with
  | some o =>
    have e := KX a o hk
    rw [ha] at e
    cases e
    exact go (fun _ => none) (fun _ _ z => nomatch z) (.inr ⟨_, vs.toArray, _, hk, rfl, rfl, rfl, by rw [List.size_toArray, lenV]; exact hl, by simpa using rv⟩) (fun z => absurd rfl z)
  | none =>
    refine go (upd (fun _ => none) a (.frz ob (.lst (ns.map V.int)))) ?_ (.inl (.inr ⟨ob, upd_same⟩)) (fun _ => hk)
    intro b u z
    by_cases hb : b = a
    · subst hb
      rw [upd_same] at z
      exact ⟨rfl, (Option.some.inj z).symm⟩
    · rw [upd_ne hb] at z
      cases z
theorem walk_G {l : PySem.W.OpenLaw} {n k : Nat} {q : Program} {loose : List Str} {XP : (Str → Option Value) → Heap → Prop} {YP : World → Heap → Prop} {d : DefRec} {K : Params → PySem.W.Frag} {CX : CXT} {sp : PySem.W.Frag → Sp} {x : Str}
    (hn : l.most = some n) (hn2 : n ≤ sizeLine) (hdf : d.params.defaults = []) (hr : Room k callerA)
    (hY : ∀ (w : World) (h : Heap), YP w h → (K w.params).In h)
    (F : ∀ (w : World) (mg : Str → Option Value) (fa : Addr) (h : Heap), (K w.params).In h → h.Ns mainGlobals mg → mg d.name = some (.ref fa) →
      ∃ fd : FuncData, (∀ (s : Shared) (u : Value), BindsTo s fd ⟨[u], []⟩ [(x, u)]) ∧
        ∀ base : Heap, (K w.params).In base → base.Ns mainGlobals mg → base.NoDigits → FnG l.prog w (K w.params) mg base CX k fa fd [x] (sp (K w.params)))
    (hsp : ∀ (K : PySem.W.Frag) (H : Hp) (a : Addr) (ns : List Int), ns.length ≤ n → (∀ i ∈ ns, Builtin.Int.intBits i ≤ 1048576) → SqL K H a (ns.map V.int) → sp K [.ref a] H (fun v _ => v = .bl true) fun _ _ _ => False)
    (hCX : ∀ (H : Hp) (s : Shared) (e : Value) (s' : Shared), CX [] H s (fun _ _ _ => False) e s' → False) :
    PySem.W.WalkO q loose XP YP l.row.toRowW d [] (fun f vs => PySem.call f vs) := by
  refine Att.attach_callB hn hdf ?_
  intro w s₀ s₁ mg mb fa o pm cd doc a vs ns G Y ho hd hcd hmg hobj hints hlen hbits hg
  have KX := hY w _ Y
  obtain ⟨fd, hb, hF⟩ := F w mg fa _ KX G.T.g hmg
  exact law_G KX G.T.g G.T.nodigits G.T.b G.T.builtins G.T.nolimit hg hobj hints (Nat.le_trans hlen hn2) hr hF hb (fun H hS => hsp _ H a ns hlen hbits hS) (fun H e s' => hCX H s₁ e s')
end Wk
set_option Elab.async false
set_option maxRecDepth 100000
set_option maxHeartbeats 4000000
set_option linter.all false
/-! W4: operators, built-ins, repr -/
namespace Wk
open PySem L2
open PyProof.Rows hiding St
section
variable {μ : Type → Type} {τ : Type} [Mir μ τ] {α β γ δ ρ : Type} {p : Pt τ} {σ : St} {S H S0 H0 : Hp} {te ta tb : TE} {tt : TT} {K : PySem.W.Frag}

/-! ### whole numbers -/
theorem e_add {mA mB : (Int → μ β) → μ β} (ha : Ev p ta σ S H mA rI) (hb : Ev p tb σ S H mB rI) : Ev p (tOp (rI0 fun i j => .int (i + j)) ta tb) σ S H (fun k => mA fun i => mB fun j => k (i + j)) rI := e_op0 (D := fun i j => i + j) ha hb fun _ _ _ => rfl
theorem e_sub {mA mB : (Int → μ β) → μ β} (ha : Ev p ta σ S H mA rI) (hb : Ev p tb σ S H mB rI) : Ev p (tOp (rI0 fun i j => .int (i - j)) ta tb) σ S H (fun k => mA fun i => mB fun j => k (i - j)) rI := e_op0 (D := fun i j => i - j) ha hb fun _ _ _ => rfl
theorem e_mul {mA mB : (Int → μ β) → μ β} (ha : Ev p ta σ S H mA rI) (hb : Ev p tb σ S H mB rI) : Ev p (tOp (L2.rI CMulX fun i j => .int (i * j)) ta tb) σ S H (fun k => mA fun i => mB fun j => Mir.lft (grd (Sm i ∧ Sm j)) >>= fun _ => k (i * j)) rI :=
  e_opC (c := fun i j => Sm i ∧ Sm j) (D := fun i j => i * j) ha hb (fun _ _ h => Sm.mul h) fun _ _ _ _ => rfl
def Dv (j : Int) : Prop := 0 < j ∧ j.natAbs.log2 < 9000
instance (j : Int) : Decidable (Dv j) := inferInstanceAs (Decidable (_ ∧ _))
theorem e_fdiv {mA mB : (Int → μ β) → μ β} (ha : Ev p ta σ S H mA rI) (hb : Ev p tb σ S H mB rI) : Ev p (tOp (L2.rI CDivW fun i j => .int (i / j)) ta tb) σ S H (fun k => mA fun i => mB fun j => Mir.lft (grd (Dv j)) >>= fun _ => k (i / j)) rI :=
  e_opC (c := fun _ j => Dv j) (D := fun i j => i / j) ha hb (fun _ _ h => h) fun _ _ _ _ => rfl
theorem e_mod {mA mB : (Int → μ β) → μ β} (ha : Ev p ta σ S H mA rI) (hb : Ev p tb σ S H mB rI) : Ev p (tOp (L2.rI (fun _ j => 0 < j) fun i j => .int (i % j)) ta tb) σ S H (fun k => mA fun i => mB fun j => Mir.lft (grd (0 < j)) >>= fun _ => k (i % j)) rI :=
  e_opC (c := fun _ j => 0 < j) (D := fun i j => i % j) ha hb (fun _ _ h => h) fun _ _ _ _ => rfl
def Pw (i j : Int) : Prop := 0 ≤ j ∧ j ≤ 1000000 ∧ i.natAbs < 18446744073709551616
instance (i j : Int) : Decidable (Pw i j) := inferInstanceAs (Decidable (_ ∧ _))
theorem e_pow {mA mB : (Int → μ β) → μ β} (ha : Ev p ta σ S H mA rI) (hb : Ev p tb σ S H mB rI) : Ev p (tOp (L2.rI CPow fun i j => .int (i ^ j.toNat)) ta tb) σ S H (fun k => mA fun i => mB fun j => Mir.lft (grd (Pw i j)) >>= fun _ => k (i ^ j.toNat)) rI :=
  e_opC (c := Pw) (D := fun i j => i ^ j.toNat) ha hb (fun _ _ h => ⟨h.1, h.2.1, by have := h.2.2; omega⟩) fun _ _ _ _ => rfl
def Sl (i j : Int) : Prop := Sm i ∧ 0 ≤ j ∧ j ≤ 60000000
instance (i j : Int) : Decidable (Sl i j) := inferInstanceAs (Decidable (_ ∧ _))
theorem e_shl {mA mB : (Int → μ β) → μ β} (ha : Ev p ta σ S H mA rI) (hb : Ev p tb σ S H mB rI) : Ev p (tOp (L2.rI CShl fun i j => .int (i * 2 ^ j.toNat)) ta tb) σ S H (fun k => mA fun i => mB fun j => Mir.lft (grd (Sl i j)) >>= fun _ => k (i * 2 ^ j.toNat)) rI :=
  e_opC (c := Sl) (D := fun i j => i * 2 ^ j.toNat) ha hb (fun i _ h => ⟨h.2.1, by have := bits_log i; have := h.1; unfold Sm at this; have := h.2.2; omega⟩) fun _ _ _ _ => rfl
theorem e_shr {mA mB : (Int → μ β) → μ β} (ha : Ev p ta σ S H mA rI) (hb : Ev p tb σ S H mB rI) : Ev p (tOp (L2.rI (fun _ j => 0 ≤ j) fun i j => .int (i / 2 ^ j.toNat)) ta tb) σ S H (fun k => mA fun i => mB fun j => Mir.lft (grd (0 ≤ j)) >>= fun _ => k (i / 2 ^ j.toNat)) rI :=
  e_opC (c := fun _ j => 0 ≤ j) (D := fun i j => i / 2 ^ j.toNat) ha hb (fun _ _ h => h) fun _ _ _ _ => rfl
theorem e_band {mA mB : (Int → μ β) → μ β} (ha : Ev p ta σ S H mA rI) (hb : Ev p tb σ S H mB rI) : Ev p (tOp (rI0 fun i j => .int (Builtin.bitAnd i j)) ta tb) σ S H (fun k => mA fun i => mB fun j => k (Builtin.bitAnd i j)) rI := e_op0 (D := fun i j => Builtin.bitAnd i j) ha hb fun _ _ _ => rfl
theorem e_bor {mA mB : (Int → μ β) → μ β} (ha : Ev p ta σ S H mA rI) (hb : Ev p tb σ S H mB rI) : Ev p (tOp (rI0 fun i j => .int (Builtin.bitOr i j)) ta tb) σ S H (fun k => mA fun i => mB fun j => k (Builtin.bitOr i j)) rI := e_op0 (D := fun i j => Builtin.bitOr i j) ha hb fun _ _ _ => rfl
theorem e_neg {m : (Int → μ β) → μ β} (h : Ev p te σ S H m rI) : Ev p (tUn (L2.rU fun i => .int (-i)) te) σ S H (fun k => m fun i => k (-i)) rI := fun S1 H1 s g ps k z hm Q q =>
  h S1 H1 s g ps _ z hm _ fun i v S2 H2 s2 g2 p2 r hm2 => ⟨i, r, q _ _ S2 H2 s2 g2 p2 rfl hm2⟩
theorem e_lt {mA mB : (Int → μ β) → μ β} (ha : Ev p ta σ S H mA rI) (hb : Ev p tb σ S H mB rI) : Ev p (tOp (rI0 fun i j => .bl (decide (i < j))) ta tb) σ S H (fun k => mA fun i => mB fun j => k (decide (i < j))) rB := e_op0 (D := fun i j => decide (i < j)) ha hb fun _ _ _ => rfl
theorem e_le {mA mB : (Int → μ β) → μ β} (ha : Ev p ta σ S H mA rI) (hb : Ev p tb σ S H mB rI) : Ev p (tOp (rI0 fun i j => .bl (decide (i ≤ j))) ta tb) σ S H (fun k => mA fun i => mB fun j => k (decide (i ≤ j))) rB := e_op0 (D := fun i j => decide (i ≤ j)) ha hb fun _ _ _ => rfl
theorem e_gt {mA mB : (Int → μ β) → μ β} (ha : Ev p ta σ S H mA rI) (hb : Ev p tb σ S H mB rI) : Ev p (tOp (rI0 fun i j => .bl (decide (j < i))) ta tb) σ S H (fun k => mA fun i => mB fun j => k (decide (j < i))) rB := e_op0 (D := fun i j => decide (j < i)) ha hb fun _ _ _ => rfl
theorem e_ge {mA mB : (Int → μ β) → μ β} (ha : Ev p ta σ S H mA rI) (hb : Ev p tb σ S H mB rI) : Ev p (tOp (rI0 fun i j => .bl (decide (j ≤ i))) ta tb) σ S H (fun k => mA fun i => mB fun j => k (decide (j ≤ i))) rB := e_op0 (D := fun i j => decide (j ≤ i)) ha hb fun _ _ _ => rfl

/-! ### flat values that are equal -/
class Fl {α : Type} (R : Rp α) where
  c : α → V
  is : ∀ a v S, R a v S ↔ v = c a
  sc : ∀ a b, scal (c a) (c b) = true
  inj : ∀ a b, c a = c b → a = b
instance : Fl rI := ⟨V.int, fun _ _ _ => Iff.rfl, fun _ _ => rfl, fun _ _ h => V.int.inj h⟩
instance : Fl rB := ⟨V.bl, fun _ _ _ => Iff.rfl, fun _ _ => rfl, fun _ _ h => V.bl.inj h⟩
instance : Fl rS := ⟨V.str, fun _ _ _ => Iff.rfl, fun _ _ => rfl, fun _ _ h => V.str.inj h⟩
theorem Fl.dec {R : Rp α} [Fl R] [DecidableEq α] (a b : α) : decide (Fl.c R a = Fl.c R b) = decide (a = b) := by
  by_cases h : a = b
  · subst h; simp
  · rw [decide_eq_false h, decide_eq_false fun e => h (Fl.inj _ _ e)]
theorem e_eq {R : Rp α} [Fl R] [DecidableEq α] {mA mB : (α → μ β) → μ β} (ha : Ev p ta σ S H mA R) (hb : Ev p tb σ S H mB R) : Ev p (tOp rEq ta tb) σ S H (fun k => mA fun i => mB fun j => k (decide (i = j))) rB := fun S1 H1 s g ps k z hm Q q =>
  ha S1 H1 s g ps _ z hm _ fun i v S2 H2 s2 g2 p2 r2 hm2 => hb S2 H2 s2 (g.tr g2) p2 _ z hm2 _ fun j u S3 H3 s3 g3 p3 r3 hm3 => by
    have e1 := (Fl.is i v S2).mp r2
    have e2 := (Fl.is j u S3).mp r3
    subst e1
    subst e2
    exact ⟨Fl.sc i j, q _ _ S3 H3 s3 (g2.tr g3) p3 (by show V.bl _ = V.bl _; rw [Fl.dec]) hm3⟩
theorem e_ne {R : Rp α} [Fl R] [DecidableEq α] {mA mB : (α → μ β) → μ β} (ha : Ev p ta σ S H mA R) (hb : Ev p tb σ S H mB R) : Ev p (tOp rNe ta tb) σ S H (fun k => mA fun i => mB fun j => k (!decide (i = j))) rB := fun S1 H1 s g ps k z hm Q q =>
  ha S1 H1 s g ps _ z hm _ fun i v S2 H2 s2 g2 p2 r2 hm2 => hb S2 H2 s2 (g.tr g2) p2 _ z hm2 _ fun j u S3 H3 s3 g3 p3 r3 hm3 => by
    have e1 := (Fl.is i v S2).mp r2
    have e2 := (Fl.is j u S3).mp r3
    subst e1
    subst e2
    exact ⟨Fl.sc i j, q _ _ S3 H3 s3 (g2.tr g3) p3 (by show V.bl _ = V.bl _; rw [Fl.dec]) hm3⟩
/-- is None, is not None of what may be None -/
class NN {α : Type} (R : Rp α) : Prop where
  nn : ∀ a v S, R a v S → v ≠ .non
instance : NN rI := ⟨fun _ _ _ h e => by rw [show _ = V.int _ from h] at e; cases e⟩
instance : NN rB := ⟨fun _ _ _ h e => by rw [show _ = V.bl _ from h] at e; cases e⟩
instance : NN rS := ⟨fun _ _ _ h e => by rw [show _ = V.str _ from h] at e; cases e⟩
instance {A : Rq α} : NN (rT K A) := ⟨fun _ _ _ ⟨_, _, h, _⟩ e => by rw [h] at e; cases e⟩
instance {A : Rq α} : NN (rL A) := ⟨fun _ _ _ ⟨_, _, h, _⟩ e => by rw [h] at e; cases e⟩
theorem isN_dec {R : Rp α} [NN R] {a : Option α} {v : V} (r : rO R a v S) : decide (v = .non) = a.isNone := by
  cases a with
  | none => rw [show v = .non from r]; rfl
  | some x => rw [decide_eq_false (NN.nn x v S r)]; rfl
theorem e_isN {R : Rp α} [NN R] {m : (Option α → μ β) → μ β} (h : Ev p te σ S H m (rO R)) : Ev p (tOp (fun x y H Q => y = .non ∧ Q (.bl (decide (x = .non))) H) te (tC .non)) σ S H (fun k => m fun a => k a.isNone) rB := fun S1 H1 s g ps k z hm Q q =>
  h S1 H1 s g ps _ z hm _ fun a v S2 H2 s2 g2 p2 r hm2 => ⟨rfl, q _ _ S2 H2 s2 g2 p2 (by show V.bl _ = V.bl _; rw [isN_dec r]) hm2⟩
theorem e_notN {R : Rp α} [NN R] {m : (Option α → μ β) → μ β} (h : Ev p te σ S H m (rO R)) : Ev p (tOp (fun x y H Q => y = .non ∧ Q (.bl (!decide (x = .non))) H) te (tC .non)) σ S H (fun k => m fun a => k (!a.isNone)) rB := fun S1 H1 s g ps k z hm Q q =>
  h S1 H1 s g ps _ z hm _ fun a v S2 H2 s2 g2 p2 r hm2 => ⟨rfl, q _ _ S2 H2 s2 g2 p2 (by show V.bl _ = V.bl _; rw [isN_dec r]) hm2⟩

/-! ### places -/
theorem All.atI {R : Rp α} {xs : List α} {vs : List V} {i : Int} {x : α} (h : All R S xs vs) (e : L2.atI xs i = some x) : ∃ v, L2.atI vs i = some v ∧ R x v S := by
  unfold L2.atI at e ⊢
  rw [h.len] at e
  cases q : ixN vs.length i with
  | none => rw [q] at e; cases e
  | some j =>
    rw [q] at e
    obtain ⟨v, h1, h2⟩ := h.get (i := j) (x := x) e
    exact ⟨v, h1, h2⟩
theorem e_ixL {R : Rp α} [Mo R] {mA : (List α → μ β) → μ β} {mB : (Int → μ β) → μ β} (ha : EvR p ta σ S H mA (aAll R)) (hb : Ev p tb σ S H mB rI) : Ev p (tOp (rIxL K) ta tb) σ S H (fun k => mA fun xs => mB fun i => Mir.lft (L2.atI xs i) >>= k) R := fun S1 H1 s g ps k z hm Q q =>
  ha S1 H1 s g ps _ z hm _ fun xs x vs S2 H2 s2 g2 p2 e2 m2 r2 hm2 => hb S2 H2 s2 (g.tr g2) p2 _ z hm2 _ fun i u S3 H3 s3 g3 p3 r3 hm3 => by
    obtain ⟨a, e, hm4⟩ := run_of_lft hm3
    have r2' := All.mo g3.s (show All R S2 xs vs from r2)
    obtain ⟨v, e4, r4⟩ := r2'.atI e
    cases (show u = .int i from r3)
    exact ⟨x, vs, i, v, rfl, rfl, .of (g3.h _ _ m2 e2), e4, q a v S3 H3 s3 (g2.tr g3) p3 r4 hm4⟩
theorem e_ixT {R : Rp α} [Mo R] {mA : (List α → μ β) → μ β} {mB : (Int → μ β) → μ β} (ha : Ev p ta σ S H mA (rT K (aAll R))) (hb : Ev p tb σ S H mB rI) : Ev p (tOp (rIxT K) ta tb) σ S H (fun k => mA fun xs => mB fun i => Mir.lft (L2.atI xs i) >>= k) R := fun S1 H1 s g ps k z hm Q q =>
  ha S1 H1 s g ps _ z hm _ fun xs v S2 H2 s2 g2 p2 ⟨x, vs, e2, h2, r2⟩ hm2 => hb S2 H2 s2 (g.tr g2) p2 _ z hm2 _ fun i u S3 H3 s3 g3 p3 r3 hm3 => by
    obtain ⟨a, e, hm4⟩ := run_of_lft hm3
    have r2' := All.mo g3.s (show All R S2 xs vs from r2)
    obtain ⟨v, e4, r4⟩ := r2'.atI e
    cases (show u = .int i from r3)
    exact ⟨x, vs, i, v, e2, rfl, sqT_ex (g3.s.tr g3.i) h2, e4, q a v S3 H3 s3 (g2.tr g3) p3 r4 hm4⟩
/-- a written place of a thing of a known make -/
theorem e_ixC {A : Rq α} {R : Rp γ} {n : Int} {f : α → γ} {mA : (α → μ β) → μ β} {mB : (Int → μ β) → μ β} (ha : Ev p ta σ S H mA (rT K A)) (hb : tb = tC (.int n)) (hn : ∀ a vs S, A a vs S → ∃ v, L2.atI vs n = some v ∧ R (f a) v S) : Ev p (tOp (rIxT K) ta tb) σ S H (fun k => mA fun a => k (f a)) R := fun S1 H1 s g ps k z hm Q q =>
  ha S1 H1 s g ps _ z hm _ fun a v S2 H2 s2 g2 p2 ⟨x, vs, e2, h2, r2⟩ hm2 => by
    subst hb
    obtain ⟨u, e4, r4⟩ := hn a vs S2 r2
    exact ⟨x, vs, n, u, e2, rfl, sqT_ex g2.i h2, e4, q _ u S2 H2 s2 g2 p2 r4 hm2⟩
theorem e_ixCL {A : Rq α} {R : Rp γ} {n : Int} {f : α → γ} {mA : (α → μ β) → μ β} (ha : EvR p ta σ S H mA A) (hb : tb = tC (.int n)) (hn : ∀ a vs S, A a vs S → ∃ v, L2.atI vs n = some v ∧ R (f a) v S) : Ev p (tOp (rIxL K) ta tb) σ S H (fun k => mA fun a => k (f a)) R := fun S1 H1 s g ps k z hm Q q =>
  ha S1 H1 s g ps _ z hm _ fun a x vs S2 H2 s2 g2 p2 e2 m2 r2 hm2 => by
    subst hb
    obtain ⟨u, e4, r4⟩ := hn a vs S2 r2
    exact ⟨x, vs, n, u, rfl, rfl, .of e2, e4, q _ u S2 H2 s2 g2 p2 r4 hm2⟩

/-! ### built-in functions -/
theorem c_lenL {R : Rp α} {m : (List α → μ β) → μ β} (h : EvR p te σ S H m (aAll R)) : Ev p (tCB (fun xs H Q => ∃ p ys, xs = [.ref p] ∧ (SqL K H p ys ∨ SqT K H p ys) ∧ Q (.int ys.length) H) (tCons te tNil)) σ S H (fun k => m fun xs => k (xs.length : Int)) rI := fun S1 H1 s g ps k z hm Q q =>
  h S1 H1 s g ps _ z hm _ fun xs x vs S2 H2 s2 g2 p2 e2 m2 r2 hm2 => ⟨x, vs, rfl, .inl (.of e2), q _ _ S2 H2 s2 g2 p2 (by show V.int _ = V.int _; rw [All.len (show All R S2 xs vs from r2)]) hm2⟩
theorem c_lenT {R : Rp α} {m : (List α → μ β) → μ β} (h : Ev p te σ S H m (rT K (aAll R))) : Ev p (tCB (fun xs H Q => ∃ p ys, xs = [.ref p] ∧ (SqL K H p ys ∨ SqT K H p ys) ∧ Q (.int ys.length) H) (tCons te tNil)) σ S H (fun k => m fun xs => k (xs.length : Int)) rI := fun S1 H1 s g ps k z hm Q q =>
  h S1 H1 s g ps _ z hm _ fun xs v S2 H2 s2 g2 p2 ⟨x, vs, e2, h2, r2⟩ hm2 => ⟨x, vs, by rw [e2], .inr (sqT_ex g2.i h2), q _ _ S2 H2 s2 g2 p2 (by show V.int _ = V.int _; rw [All.len (show All R S2 xs vs from r2)]) hm2⟩
theorem c_sum {m : (List Int → μ β) → μ β} (h : EvR p te σ S H m (aAll rI)) : Ev p (tCB (rSum K) (tCons te tNil)) σ S H (fun k => m fun xs => k xs.sum) rI := fun S1 H1 s g ps k z hm Q q =>
  h S1 H1 s g ps _ z hm _ fun xs x vs S2 H2 s2 g2 p2 e2 m2 r2 hm2 => ⟨x, xs, rfl, .of (by rw [e2, All.ints r2]), q _ _ S2 H2 s2 g2 p2 rfl hm2⟩
theorem min_one {xs : List Int} {a m : Int} (h : xs.min? = some a) (h1 : m ∈ xs) (h2 : ∀ y, y ∈ xs → m ≤ y) : m = a := by
  have := List.min?_eq_some_iff.mp h
  exact Int.le_antisymm (h2 a this.1) (this.2 m h1)
theorem max_one {xs : List Int} {a m : Int} (h : xs.max? = some a) (h1 : m ∈ xs) (h2 : ∀ y, y ∈ xs → y ≤ m) : m = a := by
  have := List.max?_eq_some_iff.mp h
  exact Int.le_antisymm (this.2 m h1) (h2 a this.1)
theorem c_min {m : (List Int → μ β) → μ β} (h : EvR p te σ S H m (aAll rI)) : Ev p (tCB (rMin K) (tCons te tNil)) σ S H (fun k => m fun xs => Mir.lft xs.min? >>= k) rI := fun S1 H1 s g ps k z hm Q q =>
  h S1 H1 s g ps _ z hm _ fun xs x vs S2 H2 s2 g2 p2 e2 m2 r2 hm2 => by
    obtain ⟨a, e, hm3⟩ := run_of_lft hm2
    refine ⟨x, xs, rfl, .of (by rw [e2, All.ints r2]), ?_, fun n h1 h2 => q a _ S2 H2 s2 g2 p2 (by rw [min_one e h1 h2]; rfl) hm3⟩
    cases xs with
    | nil => cases e
    | cons _ _ => simp
theorem c_max {m : (List Int → μ β) → μ β} (h : EvR p te σ S H m (aAll rI)) : Ev p (tCB (rMax K) (tCons te tNil)) σ S H (fun k => m fun xs => Mir.lft xs.max? >>= k) rI := fun S1 H1 s g ps k z hm Q q =>
  h S1 H1 s g ps _ z hm _ fun xs x vs S2 H2 s2 g2 p2 e2 m2 r2 hm2 => by
    obtain ⟨a, e, hm3⟩ := run_of_lft hm2
    refine ⟨x, xs, rfl, .of (by rw [e2, All.ints r2]), ?_, fun n h1 h2 => q a _ S2 H2 s2 g2 p2 (by rw [max_one e h1 h2]; rfl) hm3⟩
    cases xs with
    | nil => cases e
    | cons _ _ => simp
theorem c_min2 {mA mB : (Int → μ β) → μ β} (ha : Ev p ta σ S H mA rI) (hb : Ev p tb σ S H mB rI) : Ev p (tCB (fun xs H Q => ∃ i j, xs = [.int i, .int j] ∧ Q (.int (if j < i then j else i)) H) (tCons ta (tCons tb tNil))) σ S H (fun k => mA fun i => mB fun j => k (if j < i then j else i)) rI := fun S1 H1 s g ps k z hm Q q =>
  ha S1 H1 s g ps _ z hm _ fun i v S2 H2 s2 g2 p2 r2 hm2 => hb S2 H2 s2 (g.tr g2) p2 _ z hm2 _ fun j u S3 H3 s3 g3 p3 r3 hm3 => ⟨i, j, by rw [show v = .int i from r2, show u = .int j from r3], q _ _ S3 H3 s3 (g2.tr g3) p3 rfl hm3⟩
theorem c_max2 {mA mB : (Int → μ β) → μ β} (ha : Ev p ta σ S H mA rI) (hb : Ev p tb σ S H mB rI) : Ev p (tCB (fun xs H Q => ∃ i j, xs = [.int i, .int j] ∧ Q (.int (if j > i then j else i)) H) (tCons ta (tCons tb tNil))) σ S H (fun k => mA fun i => mB fun j => k (if j > i then j else i)) rI := fun S1 H1 s g ps k z hm Q q =>
  ha S1 H1 s g ps _ z hm _ fun i v S2 H2 s2 g2 p2 r2 hm2 => hb S2 H2 s2 (g.tr g2) p2 _ z hm2 _ fun j u S3 H3 s3 g3 p3 r3 hm3 => ⟨i, j, by rw [show v = .int i from r2, show u = .int j from r3], q _ _ S3 H3 s3 (g2.tr g3) p3 rfl hm3⟩
theorem c_abs {m : (Int → μ β) → μ β} (h : Ev p te σ S H m rI) : Ev p (tCB (fun xs H Q => ∃ i, xs = [.int i] ∧ Q (.int (if i < 0 then -i else i)) H) (tCons te tNil)) σ S H (fun k => m fun i => k (if i < 0 then -i else i)) rI := fun S1 H1 s g ps k z hm Q q =>
  h S1 H1 s g ps _ z hm _ fun i v S2 H2 s2 g2 p2 r2 hm2 => ⟨i, by rw [show v = .int i from r2], q _ _ S2 H2 s2 g2 p2 rfl hm2⟩
theorem c_int {m : (Int → μ β) → μ β} (h : Ev p te σ S H m rI) : Ev p (tCB (fun xs H Q => (∃ i, xs = [.int i] ∧ Q (.int i) H) ∨ ∃ k, xs = [.bl k] ∧ Q (.int (if k then 1 else 0)) H) (tCons te tNil)) σ S H (fun k => m fun i => k i) rI := fun S1 H1 s g ps k z hm Q q =>
  h S1 H1 s g ps _ z hm _ fun i v S2 H2 s2 g2 p2 r2 hm2 => .inl ⟨i, by rw [show v = .int i from r2], q _ _ S2 H2 s2 g2 p2 rfl hm2⟩
theorem c_intB {m : (Bool → μ β) → μ β} (h : Ev p te σ S H m rB) : Ev p (tCB (fun xs H Q => (∃ i, xs = [.int i] ∧ Q (.int i) H) ∨ ∃ k, xs = [.bl k] ∧ Q (.int (if k then 1 else 0)) H) (tCons te tNil)) σ S H (fun k => m fun b => k (if b then 1 else 0)) rI := fun S1 H1 s g ps k z hm Q q =>
  h S1 H1 s g ps _ z hm _ fun b v S2 H2 s2 g2 p2 r2 hm2 => .inr ⟨b, by rw [show v = .bl b from r2], q _ _ S2 H2 s2 g2 p2 rfl hm2⟩
theorem c_all {m : (List Bool → μ β) → μ β} (h : EvR p te σ S H m (aAll rB)) : Ev p (tCB (rAll K) (tCons te tNil)) σ S H (fun k => m fun xs => k (xs.all id)) rB := fun S1 H1 s g ps k z hm Q q =>
  h S1 H1 s g ps _ z hm _ fun xs x vs S2 H2 s2 g2 p2 e2 m2 r2 hm2 => ⟨x, xs, rfl, .of (by rw [e2, All.bools r2]), q _ _ S2 H2 s2 g2 p2 rfl hm2⟩
theorem c_any {m : (List Bool → μ β) → μ β} (h : EvR p te σ S H m (aAll rB)) : Ev p (tCB (rAny K) (tCons te tNil)) σ S H (fun k => m fun xs => k (xs.any id)) rB := fun S1 H1 s g ps k z hm Q q =>
  h S1 H1 s g ps _ z hm _ fun xs x vs S2 H2 s2 g2 p2 e2 m2 r2 hm2 => ⟨x, xs, rfl, .of (by rw [e2, All.bools r2]), q _ _ S2 H2 s2 g2 p2 rfl hm2⟩
def rTupOf (K : PySem.W.Frag) : List V → Hp → VK → Prop := fun xs H Q => ∃ p ys, xs = [.ref p] ∧ ((SqL K H p ys ∧ ∀ l, H l = none → Q (.ref l) (upd H l (.tup ys))) ∨ (SqT K H p ys ∧ Q (.ref p) H))
theorem c_tup {A : Rq α} [Mo A] {m : (α → μ β) → μ β} (h : EvR p te σ S H m A) : Ev p (tCB (rTupOf K) (tCons te tNil)) σ S H m (rT K A) := fun S1 H1 s g ps k z hm Q q =>
  h S1 H1 s g ps _ z hm _ fun xs x vs S2 H2 s2 g2 p2 e2 m2 r2 hm2 => ⟨x, vs, rfl, .inl ⟨.of e2, fun y hy =>
    have g3 : Gm p.M S2 H2 (upd S2 y (.tup vs)) (upd H2 y (.tup vs)) := Gm.new g2.i hy
    q xs _ _ _ s2 (g2.tr g3) (p2.go (Gm.new g2.i hy)) ⟨y, vs, rfl, .of upd_same, Mo.mo g3.s r2⟩ hm2⟩⟩
theorem l_list {A : Rq α} {m : (α → μ β) → μ β} (h : EvR p te σ S H m A) : EvL p (tCB (fun xs H Q => ∃ p ys, xs = [.ref p] ∧ (SqL K H p ys ∨ SqT K H p ys) ∧ ∀ l, H l = none → Q (.ref l) (upd H l (.lst ys))) (tCons te tNil)) σ S H m A := fun S1 H1 s g ps k z hm Q q =>
  h S1 H1 s g ps _ z hm _ fun xs x vs S2 H2 s2 g2 p2 e2 m2 r2 hm2 => ⟨x, vs, rfl, .inl (.of e2), fun y hy => by
    have n1 : H1 y = none := by
      cases e : H1 y with
      | none => rfl
      | some u => obtain ⟨u', e'⟩ := g2.t y u e; rw [hy] at e'; cases e'
    exact q xs y vs S2 _ s2 (g2.tr (Gm.own g2.i hy)) (p2.go (Gm.own g2.i hy)) n1 upd_same (g2.i.no hy) (new_nM p2 hy) r2 hm2⟩
theorem l_listT {A : Rq α} {m : (α → μ β) → μ β} (h : Ev p te σ S H m (rT K A)) : EvL p (tCB (fun xs H Q => ∃ p ys, xs = [.ref p] ∧ (SqL K H p ys ∨ SqT K H p ys) ∧ ∀ l, H l = none → Q (.ref l) (upd H l (.lst ys))) (tCons te tNil)) σ S H m A := fun S1 H1 s g ps k z hm Q q =>
  h S1 H1 s g ps _ z hm _ fun xs v S2 H2 s2 g2 p2 ⟨x, vs, e2, h2, r2⟩ hm2 => ⟨x, vs, by rw [e2], .inr (sqT_ex g2.i h2), fun y hy => by
    have n1 : H1 y = none := by
      cases e : H1 y with
      | none => rfl
      | some u => obtain ⟨u', e'⟩ := g2.t y u e; rw [hy] at e'; cases e'
    exact q xs y vs S2 _ s2 (g2.tr (Gm.own g2.i hy)) (p2.go (Gm.own g2.i hy)) n1 upd_same (g2.i.no hy) (new_nM p2 hy) r2 hm2⟩
/-- lists one behind another -/
theorem l_cat {R : Rp α} [Mo R] {mA mB : (List α → μ β) → μ β} (ha : EvR p ta σ S H mA (aAll R)) (hb : EvR p tb σ S H mB (aAll R)) : EvL p (tOp rCat ta tb) σ S H (fun k => mA fun xs => mB fun ys => Mir.lft (grd (xs.length + ys.length ≤ 16000000)) >>= fun _ => k (xs ++ ys)) (aAll R) := fun S1 H1 s g ps k z hm Q q =>
  ha S1 H1 s g ps _ z hm _ fun xs x vs S2 H2 s2 g2 p2 e2 m2 r2 hm2 => hb S2 H2 s2 (g.tr g2) p2 _ z hm2 _ fun ys y us S3 H3 s3 g3 p3 e3 m3 r3 hm3 => by
    obtain ⟨_, e, hm4⟩ := run_of_lft hm3
    have hl := grd_of e
    have a2 := All.mo g3.s (show All R S2 xs vs from r2)
    have a3 : All R S3 ys us := r3
    refine ⟨x, y, vs, us, rfl, rfl, g3.h _ _ m2 e2, e3, by rw [← a2.len, ← a3.len, sizeLine_eq]; omega, fun l hl => ?_⟩
    have n1 : H1 l = none := by
      cases e : H1 l with
      | none => rfl
      | some u => obtain ⟨u', e'⟩ := (g2.tr g3).t l u e; rw [hl] at e'; cases e'
    exact q _ l _ S3 _ s3 ((g2.tr g3).tr (Gm.own g3.i hl)) (p3.go (Gm.own g3.i hl)) n1 upd_same (g3.i.no hl) (new_nM p3 hl) (a2.app a3) hm4
theorem All.reps {R : Rp α} {xs : List α} {vs : List V} (h : All R S xs vs) : ∀ n : Nat, All R S (List.replicate n xs).flatten (List.replicate n vs).flatten
  | 0 => .nil
  | n + 1 => by
    rw [List.replicate_succ, List.replicate_succ, List.flatten_cons, List.flatten_cons]
    exact h.app (All.reps h n)
def RpB (n : Nat) (k : Int) : Prop := -(2 ^ 62) ≤ k ∧ k < 2 ^ 62 ∧ n * k.toNat ≤ 16000000
instance (n : Nat) (k : Int) : Decidable (RpB n k) := inferInstanceAs (Decidable (_ ∧ _))
theorem l_rep {R : Rp α} [Mo R] {mA : (List α → μ β) → μ β} {mB : (Int → μ β) → μ β} (ha : EvR p ta σ S H mA (aAll R)) (hb : Ev p tb σ S H mB rI) : EvL p (tOp rRep ta tb) σ S H (fun k => mA fun xs => mB fun n => Mir.lft (grd (RpB xs.length n)) >>= fun _ => k (List.replicate n.toNat xs).flatten) (aAll R) := fun S1 H1 s g ps k z hm Q q =>
  ha S1 H1 s g ps _ z hm _ fun xs x vs S2 H2 s2 g2 p2 e2 m2 r2 hm2 => hb S2 H2 s2 (g.tr g2) p2 _ z hm2 _ fun n u S3 H3 s3 g3 p3 r3 hm3 => by
    obtain ⟨_, e, hm4⟩ := run_of_lft hm3
    have hl := grd_of e
    have a2 := All.mo g3.s (show All R S2 xs vs from r2)
    cases (show u = .int n from r3)
    have l1 := hl.1
    have l2 := hl.2.1
    have l3 := hl.2.2
    rw [a2.len] at l3
    refine ⟨x, n, vs, rfl, rfl, g3.h _ _ m2 e2, by omega, by omega, by rw [sizeLine_eq]; omega, fun l hl => ?_⟩
    have n1 : H1 l = none := by
      cases e : H1 l with
      | none => rfl
      | some u => obtain ⟨u', e'⟩ := (g2.tr g3).t l u e; rw [hl] at e'; cases e'
    exact q _ l _ S3 _ s3 ((g2.tr g3).tr (Gm.own g3.i hl)) (p3.go (Gm.own g3.i hl)) n1 upd_same (g3.i.no hl) (new_nM p3 hl) (a2.reps _) hm4
/-- x in (a, b), x in xs: whole numbers -/
theorem inV_ints (x : Int) (xs : List Int) : inV (.int x) (xs.map V.int) = xs.contains x := by
  unfold inV
  rw [List.any_map]
  rw [List.contains_eq_any_beq]
  congr 1
  funext y
  show (y == x) = (x == y)
  rw [Bool.beq_comm]
theorem flat_ints (xs : List Int) : (xs.map V.int).all flatV = true := by
  rw [List.all_map]
  simp [flatV]
theorem e_inL {neg : Bool} {mA : (Int → μ β) → μ β} {mB : (List Int → μ β) → μ β} (ha : Ev p ta σ S H mA rI) (hb : EvR p tb σ S H mB (aAll rI)) : Ev p (tOp (rIn K neg) ta tb) σ S H (fun k => mA fun x => mB fun xs => k (if neg = true then !xs.contains x else xs.contains x)) rB := fun S1 H1 s g ps k z hm Q q =>
  ha S1 H1 s g ps _ z hm _ fun x v S2 H2 s2 g2 p2 r2 hm2 => hb S2 H2 s2 (g.tr g2) p2 _ z hm2 _ fun xs y us S3 H3 s3 g3 p3 e3 m3 r3 hm3 => by
    cases (show v = .int x from r2)
    have e4 := All.ints r3
    subst e4
    exact ⟨y, _, rfl, .inl (.of e3), rfl, flat_ints xs, q _ _ S3 H3 s3 (g2.tr g3) p3 (by rw [inV_ints]; rfl) hm3⟩
theorem e_inT {neg : Bool} {mA : (Int → μ β) → μ β} {mB : (List Int → μ β) → μ β} (ha : Ev p ta σ S H mA rI) (hb : Ev p tb σ S H mB (rT K (aAll rI))) : Ev p (tOp (rIn K neg) ta tb) σ S H (fun k => mA fun x => mB fun xs => k (if neg = true then !xs.contains x else xs.contains x)) rB := fun S1 H1 s g ps k z hm Q q =>
  ha S1 H1 s g ps _ z hm _ fun x v S2 H2 s2 g2 p2 r2 hm2 => hb S2 H2 s2 (g.tr g2) p2 _ z hm2 _ fun xs u S3 H3 s3 g3 p3 ⟨y, us, e3, h3, r3⟩ hm3 => by
    cases (show v = .int x from r2)
    have e4 := All.ints r3
    subst e4
    exact ⟨y, _, e3, .inr (sqT_ex g3.i h3), rfl, flat_ints xs, q _ _ S3 H3 s3 (g2.tr g3) p3 (by rw [inV_ints]; rfl) hm3⟩

/-! ### repr -/
class Dt (K : PySem.W.Frag) {α β : Type} (R : α → β → Hp → Prop) (δ : outParam (α → PyData)) : Prop where
  dt : True
/-- what a value is as data -/
def isD (K : PySem.W.Frag) (R : Rp α) (d : α → PyData) : Prop := ∀ a v S H, R a v S → Ex S H → Dp K H v (d a)
def isDs (K : PySem.W.Frag) (A : Rq α) (d : α → List PyData) : Prop := ∀ a vs S H, A a vs S → Ex S H → DpAll K H vs (d a)
theorem d_I : isD K rI .int := fun a v _ _ h _ => by rw [show v = .int a from h]; exact .int a
theorem d_B : isD K rB .bool := fun a v _ _ h _ => by rw [show v = .bl a from h]; exact .bl a
theorem d_S : isD K rS .str := fun a v _ _ h _ => by rw [show v = .str a from h]; exact .str a
theorem d_N : isD K rN fun _ => .none := fun a v _ _ h _ => by rw [show v = .non from h]; exact .non
def dO (d : α → PyData) : Option α → PyData
  | none => .none
  | some a => d a
theorem d_O {R : Rp α} {d : α → PyData} (h : isD K R d) : isD K (rO R) (dO d) := fun a v S H r e => by
  cases a with
  | none => rw [show v = .non from r]; exact .non
  | some x => exact h x v S H r e
def dU (d : α → PyData) (d' : γ → PyData) : α ⊕ γ → PyData
  | .inl a => d a
  | .inr b => d' b
theorem d_U {R : Rp α} {R' : Rp γ} {d : α → PyData} {d' : γ → PyData} (h : isD K R d) (h' : isD K R' d') : isD K (rU R R') (dU d d') := fun a v S H r e => by
  cases a with
  | inl x => exact h x v S H r e
  | inr x => exact h' x v S H r e
theorem ds_nil : isDs K aNil fun _ => [] := fun _ vs _ _ h _ => by rw [show vs = [] from h]; exact .nil
theorem ds_one {R : Rp α} {d : α → PyData} (h : isD K R d) : isDs K (aOne R) fun a => [d a] := fun a vs S H ⟨v, e1, r⟩ e => by rw [e1]; exact .cons (h a v S H r e) .nil
theorem ds_cons {R : Rp α} {A : Rq γ} {d : α → PyData} {ds : γ → List PyData} (h : isD K R d) (h' : isDs K A ds) : isDs K (aCons R A) fun a => d a.1 :: ds a.2 := fun a vs S H ⟨v, r, e1, r1, r2⟩ e => by rw [e1]; exact .cons (h _ v S H r1 e) (h' _ r S H r2 e)
theorem ds_all {R : Rp α} {d : α → PyData} (h : isD K R d) : isDs K (aAll R) fun xs => xs.map d := fun xs vs S H r e => by
  have go : ∀ {xs : List α} {vs : List V}, All R S xs vs → DpAll K H vs (xs.map d) := by
    intro xs vs r
    induction r with
    | nil => exact .nil
    | cons r _ ih => exact .cons (h _ _ S H r e) ih
  exact go r
theorem d_T {A : Rq α} {ds : α → List PyData} (h : isDs K A ds) : isD K (rT K A) fun a => .tuple (ds a) := fun a v S H ⟨x, vs, e1, h1, r⟩ e => by rw [e1]; exact .tup (sqT_ex e h1) (h a vs S H r e)
theorem d_L {A : Rq α} {ds : α → List PyData} (h : isDs K A ds) : isD K (rL A) fun a => .list (ds a) := fun a v S H ⟨x, vs, e1, h1, r⟩ e => by rw [e1]; exact .lst (.of (e _ _ h1)) (h a vs S H r e)
end

/-! ### repr, ints of some thousand figures too -/
section
variable {prog : Program} {w : World} {A : Around} {E : Value → Shared → Prop} {s : Shared} {h₀ : Heap}
theorem lt_lim {a : Nat} (h : a.log2 < 12900) : a < 10 ^ 4300 := Nat.lt_of_lt_of_le (PyProof.Rows.lt_of_log2 h) PyProof.Rows.pow_lo
set_option maxRecDepth 100000 in
theorem call_int_reprB {a : Int} {t : Tok} {Q : Value → Shared → Prop} (hn : s.heap.NoDigits) (ha : a.natAbs.log2 < 12900) (h : Q (.str (toString a) s.toks) { s with toks := s.toks + 1 }) :
    wpAny (model prog w) A (call (.builtin "int.__repr__") [.int a t]) Q E s := by
  refine wpAny_call (codeAny_call_builtin F.slot_int_repr.plain F.entry_int_repr (F.slot_int_repr.check _ _ _ _ _ _ _ _ (typeIs_int _ a t) (F.args_int_repr_1 _) ?_))
  unfold Builtin.«int.__repr__»
  show wpAny _ _ (do let r ← Builtin.overDigitLimit? a; _) _ _ s
  refine wpAny_bind (overDigitLimit_any hn (fun hlt => ?_) (fun hge => ?_))
  · exact wpAny_bind (wpAny_mkStr (wpAny_pure h) (by have e := int_text_length_le (k := 12900) (by decide) ha; rw [PySem.ofString_length, sizeLine_eq]; omega))
  · have hlt := lt_lim ha
    exact absurd hlt (Nat.not_lt.mpr hge)
theorem pyReprObj_intB {a : Int} {t : Tok} {Q : Value → Shared → Prop} (hn : s.heap.NoDigits) (ha : a.natAbs.log2 < 12900) (h : Q (.str (toString a) s.toks) { s with toks := s.toks + 1 }) : wpAny (model prog w) A (pyReprObj (.int a t)) Q E s := by
  unfold pyReprObj
  have hv : ([.int a t] : List Value).any Value.onHeap = false := rfl
  simp only [cRoomFor, hv, Bool.false_eq_true, if_false, pure_bind]
  refine wpAny_bind (wpAny_specialOf (name := Str.ofString "__repr__") (typeIs_int s a t) F.slot_int_repr.lookup ?_)
  refine wpAny_bind (m := callSpecialIfBound? (.int a t) (Str.ofString "__repr__")) (wpAny_callSpecialIfBound?_slot (name := Str.ofString "__repr__") (typeIs_int s a t) F.slot_int_repr (call_int_reprB hn ha ?_))
  exact wpAny_bind (wpAny_isInstance (T := "str") (b := true) rfl isSubtype_str_str (wpAny_pure h))
theorem repr_of_intB {a : Int} {t : Tok} {Q : Value → Shared → Prop} (hn : s.heap.NoDigits) (ha : a.natAbs.log2 < 12900) (h : Q (.str (toString a) s.toks) { s with toks := s.toks + 1 }) : wpAny (model prog w) A (call (.builtin "repr") [.int a t]) Q E s := by
  refine Calls.call_function_entry F.kind_repr F.plain_repr F.entry_repr (F.args_repr1 _) ?_
  unfold Builtin.«repr»
  have hv : ([.int a t] : List Value).any Value.onHeap = false := rfl
  refine wpAny_bind (m := oneArg "repr" _) (wpAny_pure ?_)
  simp only [cRoomFor, hv, Bool.false_eq_true, if_false, pure_bind]
  refine wpAny_bind (wpAny_specialOf (name := Str.ofString "__repr__") (typeIs_int s a t) F.slot_int_repr.lookup ?_)
  refine wpAny_bind (m := callSpecialIfBound? (.int a t) (Str.ofString "__repr__")) (wpAny_callSpecialIfBound?_slot (name := Str.ofString "__repr__") (typeIs_int s a t) F.slot_int_repr (call_int_reprB hn ha ?_))
  refine wpAny_bind (wpAny_isInstance (T := "str") (b := true) rfl isSubtype_str_str ?_)
  exact wpAny_pure ⟨_, rfl, h⟩
theorem reprK_intB {a : Int} (t : Tok) (hn : h₀.NoDigits) (ha : a.natAbs.log2 < 12900) (as : List Addr) (d : Nat) : ReprK prog w as h₀ d (.int a t) (toString a) := fun n hz A g E s Q _ _ _ hk hQ => by
  have hn' : n ≤ sizeLine := by omega
  rw [pyReprUnder_leaf (v := .int a t) hn' (fun _ e => nomatch e)]
  unfold pyRepr
  exact wpAny_bind (pyReprObj_intB (hn.keeps hk) ha (wpAny_pure (hQ s.heap _ fun _ _ e => e)))
end
mutual
/-- what repr can write here -/
def shB : PyData → Bool
  | .none | .bool _ | .str _ => true
  | .int i => decide (i.natAbs.log2 < 12900)
  | .list xs | .tuple xs => shsB xs
  | .dict _ => false
def shsB : List PyData → Bool
  | [] => true
  | x :: xs => shB x && shsB xs
end
section
variable {prog : Program} {w : World} {h₀ : Heap}
mutual
theorem reprK_of (hn : h₀.NoDigits) : ∀ {v : Value} {d : PyData} {as : List Addr}, Reads h₀ v d as → shB d = true → d.shown.length ≤ sizeLine → ∃ bs, ReadAtMost h₀ d.depth bs ∧ ReprK prog w bs h₀ d.depth v d.shown
  | _, _, _, .none, _, _ => ⟨[], (fun _ h => nomatch h), by simp only [PyData.shown]; exact .of_is ReprIs.none _ _ _⟩
  | _, _, _, .bool b, _, _ => ⟨[], (fun _ h => nomatch h), by simp only [PyData.shown]; exact .of_is (ReprIs.bool b) _ _ _⟩
  | _, _, _, .int i t, hs, _ => ⟨[], (fun _ h => nomatch h), by simp only [PyData.shown]; exact reprK_intB t hn (by simpa [shB] using hs) _ _⟩
  | _, _, _, .str x t, _, hz => ⟨[], (fun _ h => nomatch h), by simp only [PyData.shown]; exact .of_is (ReprIs.str x t (by simpa only [PyData.shown] using hz)) _ _ _⟩
  | _, _, _, .list (a := a) (vs := vs) (xs := xs) h1 h2 h3 h4, hs, hz => by
    have hz' : (listText (PyData.shownAll xs)).length ≤ sizeLine := by simpa only [PyData.shown] using hz
    obtain ⟨bs, hb, hk⟩ := reprsK_of hn h4 (by simpa [shB] using hs) (fun t ht => Nat.le_trans (listText_mem_le ht) hz')
    have r : Reads h₀ (.ref a) (.list xs) _ := .list h1 h2 h3 h4
    have hna : a ∉ bs := not_mem_of_deeper r (by simp only [PyData.depth]; omega) hb
    refine ⟨a :: bs, ReadAtMost.cons r (by simp only [PyData.depth]; omega) hb, ?_⟩
    simp only [PyData.depth, PyData.shown]
    obtain ⟨l⟩ := vs
    cases l with
    | nil =>
      have h4' : ReadsAll h₀ [] xs _ := h4
      cases h4'
      simp only [PyData.shownAll, listText_nil]
      exact ReprK.listEmpty h1 h2 h3
    | cons x l => exact ReprK.list h1 h2 h3 hna (by simpa using hk.length_eq) (fun i y e => hk.item i y (by simpa using e))
  | _, _, _, .tuple (a := a) (xs := xs) h1 h2 h3 h4, hs, hz => by
    have hz' : (tupleText (PyData.shownAll xs)).length ≤ sizeLine := by simpa only [PyData.shown] using hz
    obtain ⟨bs, hb, hk⟩ := reprsK_of hn h4 (by simpa [shB] using hs) (fun t ht => Nat.le_trans (tupleText_mem_le ht) hz')
    have r : Reads h₀ (.ref a) (.tuple xs) _ := .tuple h1 h2 h3 h4
    have hna : a ∉ bs := not_mem_of_deeper r (by simp only [PyData.depth]; omega) hb
    refine ⟨a :: bs, ReadAtMost.cons r (by simp only [PyData.depth]; omega) hb, ?_⟩
    simp only [PyData.depth, PyData.shown]
    exact ReprK.tuple h1 h2 h3 hna hk
  | _, _, _, .dict _ _ _ _ _, hs, _ => by simp [shB] at hs
theorem reprsK_of (hn : h₀.NoDigits) : ∀ {vs : List Value} {ds : List PyData} {as : List Addr}, ReadsAll h₀ vs ds as → shsB ds = true → (∀ t ∈ PyData.shownAll ds, t.length ≤ sizeLine) →
    ∃ bs, ReadAtMost h₀ (PyData.depthAll ds) bs ∧ ReprAllK prog w bs h₀ (PyData.depthAll ds) vs (PyData.shownAll ds)
  | _, _, _, .nil, _, _ => ⟨[], (fun _ h => nomatch h), by simp only [PyData.shownAll]; exact .nil⟩
  | _, _, _, .cons (d := d) (ds := ds) r rs, hs, hz => by
    have hs' : shB d = true ∧ shsB ds = true := by simpa [shsB] using hs
    obtain ⟨b1, hb1, k1⟩ := reprK_of hn r hs'.1 (hz _ (by simp only [PyData.shownAll]; exact List.mem_cons_self ..))
    obtain ⟨b2, hb2, k2⟩ := reprsK_of hn rs hs'.2 (fun t ht => hz t (by simp only [PyData.shownAll]; exact List.mem_cons_of_mem _ ht))
    refine ⟨b1 ++ b2, ?_, ?_⟩
    · intro b hm
      simp only [PyData.depthAll]
      rcases List.mem_append.mp hm with hm | hm
      · obtain ⟨d', as', r', hd'⟩ := hb1 b hm
        exact ⟨d', as', r', Nat.le_trans hd' (Nat.le_max_left _ _)⟩
      · obtain ⟨d', as', r', hd'⟩ := hb2 b hm
        exact ⟨d', as', r', Nat.le_trans hd' (Nat.le_max_right _ _)⟩
    · simp only [PyData.depthAll, PyData.shownAll]
      exact .cons ((k1.more fun b hb => List.mem_append_left _ hb).level_le (Nat.le_max_left _ _)) (k2.more_le (fun b hb => List.mem_append_right _ hb) (Nat.le_max_right _ _))
end
theorem repr_readsB {a : Addr} {d : PyData} {as : List Addr} {A : Around} {E : Value → Shared → Prop} {s : Shared} {Q : Value → Shared → Prop} (hn : h₀.NoDigits) (r : Reads h₀ (.ref a) d as) (hs : shB d = true) (hg : A.guards = some []) (hu : A.units + (d.depth + 1) < cLine) (hk0 : ∀ b o, h₀.get? b = some o → s.heap.get? b = some o)
    (hQ : ∀ h' u tk, (∀ b o, s.heap.get? b = some o → h'.get? b = some o) → Q (.str d.shown u) { s with heap := h', toks := tk }) (hsz : d.shown.length ≤ sizeLine) : wpAny (model prog w) A (call (.builtin "repr") [.ref a]) Q E s := by
  have sh : ∃ T idr, ShowsBy prog w h₀ a d T idr := by
    cases r with
    | list h1 h2 h3 h4 =>
      rename_i o vs n xs bs₀
      have hz' : (listText (PyData.shownAll xs)).length ≤ sizeLine := by simpa only [PyData.shown] using hsz
      obtain ⟨bs, hb, hk⟩ := reprsK_of (prog := prog) (w := w) hn h4 (by simpa [shB] using hs) (fun t ht => Nat.le_trans (listText_mem_le ht) hz')
      have hna : a ∉ bs := not_mem_of_deeper (.list h1 h2 h3 h4) (by simp only [PyData.depth]; omega) hb
      refine ⟨"list", "list.__repr__", F.slot_list_repr.toG, F.slot_list_str, F.slot_list_format, fun s hk0 => ⟨o, hk0 _ _ h1, h2⟩, fun A E s Q hg hu hk0 hQ => ?_⟩
      simp only [PyData.depth] at hu
      simp only [PyData.shown] at hQ
      obtain ⟨l⟩ := vs
      cases l with
      | nil =>
        have h4' : ReadsAll h₀ [] xs _ := h4
        cases h4'
        simp only [PyData.shownAll, listText_nil] at hQ
        exact call_list_repr_empty ⟨o, hk0 _ _ h1, h2⟩ (hk0 _ _ h1) h3 (hQ s.heap _ _ fun _ _ e => e)
      | cons x l =>
        exact call_list_reprK h1 h2 h3 hna (by simpa using hk.length_eq) (fun i y e => hk.item i y (by simpa using e)) hg (fun b _ => Clear.nil b) hu hk0 hQ hz'
    | tuple h1 h2 h3 h4 =>
      rename_i o vs n xs
      have hz' : (tupleText (PyData.shownAll xs)).length ≤ sizeLine := by simpa only [PyData.shown] using hsz
      obtain ⟨bs, hb, hk⟩ := reprsK_of (prog := prog) (w := w) hn h4 (by simpa [shB] using hs) (fun t ht => Nat.le_trans (tupleText_mem_le ht) hz')
      have hna : a ∉ bs := not_mem_of_deeper (.tuple h1 h2 h3 h4) (by simp only [PyData.depth]; omega) hb
      refine ⟨"tuple", "tuple.__repr__", F.slot_tuple_repr, F.slot_tuple_str, F.slot_tuple_format, fun s hk0 => ⟨o, hk0 _ _ h1, h2⟩, fun A E s Q hg hu hk0 hQ => ?_⟩
      simp only [PyData.depth] at hu
      simp only [PyData.shown] at hQ
      exact call_tuple_reprK h1 h2 h3 hna hk hg (fun b _ => Clear.nil b) hu hk0 hQ hz'
    | dict _ _ _ _ _ => simp [shB] at hs
  obtain ⟨T, idr, S⟩ := sh
  exact call_repr_slot (by omega) (S.typeIs s hk0) S.slotRepr (S.call A.in1 E s _ hg (by show A.units + 1 + d.depth < cLine; omega) hk0 fun h' u tk hk => ⟨_, _, rfl, hQ h' u tk hk⟩)
end
section
variable {K : PySem.W.Frag}
mutual
/-- an upper bound of what is written of a value; too much where it can't be written -/
def wt : PyData → Nat
  | .none => 10
  | .bool _ => 10
  | .int i => if i.natAbs < 10 ^ 40 then 50 else if i.natAbs.log2 < 12900 then 13000 else 100000000
  | .str x => if x.cps.toList.all (fun c => decide (c < 16 ^ 8)) = true then 10 * x.length + 2 else 100000000
  | .list xs => wts xs + 3
  | .tuple xs => wts xs + 3
  | .dict _ => 100000000
def wts : List PyData → Nat
  | [] => 0
  | x :: xs => wt x + 2 + wts xs
end
theorem str_len_of (x : String) : (Str.ofString x).length = x.length := PySem.ofString_length x
mutual
theorem wt_ok : ∀ d : PyData, wt d < 100000000 → shB d = true ∧ d.shown.length ≤ wt d
  | .none, _ => ⟨by simp only [shB], by simp only [PyData.shown, wt]; decide +kernel⟩
  | .bool b, _ => ⟨by simp only [shB], by simp only [PyData.shown, wt]; cases b <;> decide +kernel⟩
  | .int i, h => by
    simp only [wt] at h ⊢
    by_cases h1 : i.natAbs < 10 ^ 40
    · have e := int_text_length_le10 (k := 40) (by decide) h1
      refine ⟨?_, ?_⟩
      · simp only [shB, decide_eq_true_eq]
        exact PySem.Flt.log2_lt_of (by decide) (Nat.lt_trans h1 (by decide +kernel))
      · simp only [PyData.shown]
        rw [str_len_of, if_pos h1]
        omega
    · rw [if_neg h1] at h ⊢
      by_cases h2 : i.natAbs.log2 < 12900
      · have e := int_text_length_le (k := 12900) (by decide) h2
        refine ⟨?_, ?_⟩
        · simp only [shB, decide_eq_true_eq]
          exact h2
        · simp only [PyData.shown]
          rw [str_len_of, if_pos h2]
          omega
      · rw [if_neg h2] at h
        exact absurd h (by decide)
  | .str x, h => by
    simp only [wt] at h ⊢
    by_cases h1 : x.cps.toList.all (fun c => decide (c < 16 ^ 8)) = true
    · refine ⟨by simp only [shB], ?_⟩
      simp only [PyData.shown]
      rw [if_pos h1]
      exact StrLaws.reprText_len x fun c hc => by
        have := List.all_eq_true.mp h1 c hc
        exact of_decide_eq_true this
    · rw [if_neg h1] at h
      exact absurd h (by decide)
  | .list xs, h => by
    simp only [wt] at h ⊢
    obtain ⟨h1, h3⟩ := wts_ok xs (by omega)
    refine ⟨by simpa only [shB] using h1, ?_⟩
    simp only [PyData.shown]
    have := listText_len_le (PyData.shownAll xs)
    omega
  | .tuple xs, h => by
    simp only [wt] at h ⊢
    obtain ⟨h1, h3⟩ := wts_ok xs (by omega)
    refine ⟨by simpa only [shB] using h1, ?_⟩
    simp only [PyData.shown]
    have := tupleText_len_le (PyData.shownAll xs)
    omega
  | .dict _, h => by simp only [wt] at h; exact absurd h (by decide)
theorem wts_ok : ∀ xs : List PyData, wts xs < 100000000 → shsB xs = true ∧ ((PyData.shownAll xs).map (·.length)).sum + 2 * (PyData.shownAll xs).length ≤ wts xs
  | [], _ => ⟨by simp only [shsB], by simp only [PyData.shownAll, wts]; decide⟩
  | x :: xs, h => by
    simp only [wts] at h ⊢
    obtain ⟨a1, a3⟩ := wt_ok x (by omega)
    obtain ⟨b1, b3⟩ := wts_ok xs (by omega)
    refine ⟨by simp only [shsB, a1, b1, Bool.and_self], ?_⟩
    simp only [PyData.shownAll, List.map_cons, List.sum_cons, List.length_cons]
    omega
end
/-- what repr takes -/
def OkD (d : PyData) : Prop := d.depth ≤ 50 ∧ wt d ≤ 16000000
instance (d : PyData) : Decidable (OkD d) := inferInstanceAs (Decidable (_ ∧ _))
def rRepr (K : PySem.W.Frag) : List V → Hp → VK → Prop := fun xs H Q => ∃ x d, xs = [x] ∧ Dp K H x d ∧ OkD d ∧ Q (.str d.shown) H
end
section
variable {X : Cx}
theorem call_repr {k : Nat} (hr : Room k X.A) (gd : X.A.guards = some []) (nd : X.base.NoDigits) : CallR X (.builtin "repr") (rRepr X.K) := by
  intro pins s σ H xs us Q I r h
  obtain ⟨x, d, rfl, hd, ok, q⟩ := h
  obtain ⟨u, rfl, ru⟩ := vals1 r
  obtain ⟨as, rd⟩ := Dp.reads I d x u hd ru
  obtain ⟨h1, h3⟩ := wt_ok d (by have := ok.2; omega)
  have hn : s.heap.NoDigits := nd.keeps I.bk
  have hz : d.shown.length ≤ sizeLine := by rw [sizeLine_eq]; have := ok.2; omega
  have hu := hr.units
  have hdp := ok.1
  have fin : ∀ {h' : Heap} {t : Tok} {tk : Nat}, (∀ b o, s.heap.get? b = some o → h'.get? b = some o) → EP X pins σ Q (.str d.shown t) { s with heap := h', toks := tk } :=
    fun {h' t tk} kp => ⟨.str d.shown, H, I.kept kp, ⟨t, rfl⟩, q⟩
  cases hd with
  | non =>
    obtain rfl : u = Value.none := ru
    exact PySem.P.repr_of_none (by have := fin (h' := s.heap) (t := s.toks) (tk := s.toks + 1) (fun _ _ e => e); rwa [PyData.shown_none] at this)
  | bl b =>
    obtain rfl : u = Value.bool b := ru
    refine PySem.P.repr_of_bool ?_
    have := fin (h' := s.heap) (t := s.toks) (tk := s.toks + 1) (fun _ _ e => e)
    rw [PyData.shown_bool] at this
    cases b <;> exact this
  | int i =>
    obtain ⟨t, rfl⟩ := ru
    refine repr_of_intB hn (by simpa [shB] using h1) ?_
    have := fin (h' := s.heap) (t := s.toks) (tk := s.toks + 1) (fun _ _ e => e)
    rwa [PyData.shown_int] at this
  | str z =>
    obtain ⟨t, rfl⟩ := ru
    refine PySem.P.repr_of_str ?_ (by rwa [PyData.shown_str] at hz)
    have := fin (h' := s.heap) (t := s.toks) (tk := s.toks + 1) (fun _ _ e => e)
    rwa [PyData.shown_str] at this
  | lst _ _ =>
    obtain rfl : u = Value.ref _ := ru
    exact repr_readsB hn rd h1 gd (by omega) (fun _ _ e => e) (fun h' t tk kp => fin kp) hz
  | tup _ _ =>
    obtain rfl : u = Value.ref _ := ru
    exact repr_readsB hn rd h1 gd (by omega) (fun _ _ e => e) (fun h' t tk kp => fin kp) hz
end
section
variable {μ : Type → Type} {τ : Type} [Mir μ τ] {α β γ δ ρ : Type} {p : Pt τ} {σ : St} {S H S0 H0 : Hp} {te ta tb : TE} {tt : TT} {K : PySem.W.Frag}
/-- what is written of a value, told by the value -/
def rW : Rp PyData := fun d v _ => v = .str d.shown
instance : Mo rW := ⟨fun _ h => h⟩
theorem c_repr {R : Rp α} {d : α → PyData} {m : (α → μ β) → μ β} (h : Ev p te σ S H m R) (hd : isD K R d) : Ev p (tCB (rRepr K) (tCons te tNil)) σ S H (fun k => m fun a => bnd (d a) fun w => Mir.lft (grd (OkD w)) >>= fun _ => k w) rW := fun S1 H1 s g ps k z hm Q q =>
  h S1 H1 s g ps _ z hm _ fun a v S2 H2 s2 g2 p2 r2 hm2 => by
    obtain ⟨_, e, hm3⟩ := run_of_lft (show Mir.run (Mir.lft (grd (OkD (d a))) >>= fun _ => k (d a)) s2 = some z from hm2)
    exact ⟨v, d a, rfl, hd a v S2 H2 r2 g2.i, grd_of e, q _ _ S2 H2 s2 g2 p2 rfl hm3⟩
open Classical in
/-- a condition that must hold, of any kind -/
noncomputable def grP (c : Prop) : Option Unit := if c then some () else none
theorem grP_of {c : Prop} {u : Unit} (h : grP c = some u) : c := by
  unfold grP at h
  split at h
  · assumption
  · cases h
theorem grP_ok {c : Prop} (h : c) : grP c = some () := by
  unfold grP
  rw [if_pos h]
/-- two writings that must be the same -/
theorem e_neW {mA mB : (PyData → μ β) → μ β} (ha : Ev p ta σ S H mA rW) (hb : Ev p tb σ S H mB rW) : Ev p (tOp rNe ta tb) σ S H (fun k => mA fun a => mB fun b => Mir.lft (grP (a = b)) >>= fun _ => k false) rB := fun S1 H1 s g ps k z hm Q q =>
  ha S1 H1 s g ps _ z hm _ fun a v S2 H2 s2 g2 p2 r2 hm2 => hb S2 H2 s2 (g.tr g2) p2 _ z hm2 _ fun b u S3 H3 s3 g3 p3 r3 hm3 => by
    obtain ⟨_, e, hm4⟩ := run_of_lft hm3
    have e1 := grP_of e
    subst e1
    have e2 : v = .str a.shown := r2
    have e3 : u = .str a.shown := r3
    subst e2
    subst e3
    exact ⟨rfl, q false _ S3 H3 s3 (g2.tr g3) p3 (by show V.bl _ = V.bl _; simp) hm4⟩
theorem e_eqW {mA mB : (PyData → μ β) → μ β} (ha : Ev p ta σ S H mA rW) (hb : Ev p tb σ S H mB rW) : Ev p (tOp rEq ta tb) σ S H (fun k => mA fun a => mB fun b => Mir.lft (grP (a = b)) >>= fun _ => k true) rB := fun S1 H1 s g ps k z hm Q q =>
  ha S1 H1 s g ps _ z hm _ fun a v S2 H2 s2 g2 p2 r2 hm2 => hb S2 H2 s2 (g.tr g2) p2 _ z hm2 _ fun b u S3 H3 s3 g3 p3 r3 hm3 => by
    obtain ⟨_, e, hm4⟩ := run_of_lft hm3
    have e1 := grP_of e
    subst e1
    have e2 : v = .str a.shown := r2
    have e3 : u = .str a.shown := r3
    subst e2
    subst e3
    exact ⟨rfl, q true _ S3 H3 s3 (g2.tr g3) p3 (by show V.bl _ = V.bl _; simp) hm4⟩
end
end Wk
set_option Elab.async false
set_option maxRecDepth 100000
set_option maxHeartbeats 4000000
set_option linter.all false
/-! W5: defs by their names -/
namespace Wk
open PySem L2
open PyProof.Rows hiding St
/-- the def x of the top stands as it was written -/
def DefAt (K : PySem.W.Frag) (mg : Str → Option Value) (x : Str) (st : Stmt) : Prop := ∃ f fd, Fun K x x st f fd ∧ mg x = some (.ref f)
theorem defAt {K : PySem.W.Frag} {h : Heap} {mg : Str → Option Value} {x : Str} {st : Stmt} {f : Addr} {od an : Option Addr} {sl : Array (Option Value)} {oc kV doc pm cd ct : Value} (X : K.In h) (G : h.Ns mainGlobals mg)
    (a : PySem.W.nsIn K mainGlobals x = some (some (.ref f))) (l : K.lookup f = some ⟨oc, od, .func (PySem.W.fnOf x x (defArgs st) (defBody st) (defScope st) .none kV doc pm an cd ct), sl⟩)
    (c : PySem.W.codeIn K cd x = true) (k : PySem.W.keepIn K (.ref f) = true) : DefAt K mg x st := ⟨f, _, fun_mk l c k, PySem.W.mg_of X G a⟩
/-- .. and keeps its promise -/
def Dk (P : Program) (w : World) (K : PySem.W.Frag) (mg : Str → Option Value) (base : Heap) (x gx : Str) (st : Stmt) (k : Nat) (ps : List Str) (sp : Sp) : Prop :=
  ∃ f fd, Fun K x x st f fd ∧ mg gx = some (.ref f) ∧ FnG P w K mg base CX0 k f fd ps sp ∧ Binds K fd ps []
theorem Fun.kb {K : PySem.W.Frag} {x qual : Str} {st : Stmt} {f : Addr} {fd : FuncData} {ps ks : List Str} {n : Nat} {ix : List Nat} (F : Fun K x qual st f fd)
    (h : ∀ (kV doc pm : Value) (an : Option Addr) (cdv ct : Value) (us ws : List Value), us.length = n → ws.length = ks.length → bindArgs (PySem.W.fnOf x qual (defArgs st) (defBody st) (defScope st) .none kV doc pm an cdv ct) ⟨us, ks.zip ws⟩ = pure (ps.zip (pick ix (us ++ ws)))) : KB K fd ps n ks ix := by
  obtain ⟨oc, od, kV, doc, pm, an, cdv, ct, osl, rfl, lk, hcd⟩ := F.ex
  exact fun s us ws _ h1 h2 => .of_eq (h kV doc pm an cdv ct us ws h1 h2)

/-! ### the layer's rules, the written part told -/
section
variable {X : Cx} {tg : Expr}
theorem k_ixL (K : PySem.W.Frag) (h : X.K = K := by rfl) : IxR X (rIxL K) := h ▸ ix_list
theorem k_ixT (K : PySem.W.Frag) (h : X.K = K := by rfl) : IxR X (rIxT K) := h ▸ ix_tup
theorem k_sum (K : PySem.W.Frag) (hc : X.calm = true := by rfl) (h : X.K = K := by rfl) : CallR X (.builtin "sum") (rSum K) := h ▸ cr_sum hc
theorem k_min (K : PySem.W.Frag) (hc : X.calm = true := by rfl) (h : X.K = K := by rfl) : CallR X (.builtin "min") (rMin K) := h ▸ cr_min hc
theorem k_max (K : PySem.W.Frag) (hc : X.calm = true := by rfl) (h : X.K = K := by rfl) : CallR X (.builtin "max") (rMax K) := h ▸ cr_max hc
theorem k_all (K : PySem.W.Frag) (hc : X.calm = true := by rfl) (h : X.K = K := by rfl) : CallR X (.builtin "all") (rAll K) := h ▸ cr_all hc
theorem k_any (K : PySem.W.Frag) (hc : X.calm = true := by rfl) (h : X.K = K := by rfl) : CallR X (.builtin "any") (rAny K) := h ▸ cr_any hc
theorem k_len (K : PySem.W.Frag) (h : X.K = K := by rfl) : CallR X (.builtin "len") (fun xs H Q => ∃ p ys, xs = [.ref p] ∧ (SqL K H p ys ∨ SqT K H p ys) ∧ Q (.int ys.length) H) := h ▸ call_len_seq
theorem k_tupOf (K : PySem.W.Frag) (h : X.K = K := by rfl) : CallR X (.type "tuple") (rTupOf K) := h ▸ call_tuple_of
theorem k_listOf (K : PySem.W.Frag) (h : X.K = K := by rfl) : CallR X (.type "list") (fun xs H Q => ∃ p ys, xs = [.ref p] ∧ (SqL K H p ys ∨ SqT K H p ys) ∧ ∀ l, H l = none → Q (.ref l) (upd H l (.lst ys))) := h ▸ call_list_of
theorem k_repr {k : Nat} (K : PySem.W.Frag) (hr : Room k X.A) (gd : X.A.guards = some []) (nd : X.base.NoDigits) (h : X.K = K := by rfl) : CallR X (.builtin "repr") (rRepr K) := h ▸ call_repr hr gd nd
theorem k_in (K : PySem.W.Frag) (h : X.K = K := by rfl) : OpR X (compareOp .In) (rIn K false) := h ▸ op_in_seq
theorem k_notin (K : PySem.W.Frag) (h : X.K = K := by rfl) : OpR X (compareOp .NotIn) (rIn K true) := h ▸ op_notIn_seq
theorem k_pil (K : PySem.W.Frag) {l : Expr} {tl : TE} (hl : PE X l tl) (h : X.K = K := by rfl) : PI X tg l (iList K tl) := h ▸ pi_list hl
theorem k_pit (K : PySem.W.Frag) {l : Expr} {tl : TE} (hl : PE X l tl) (h : X.K = K := by rfl) : PI X tg l (iTup K tl) := h ▸ pi_tup hl
theorem k_pie (K : PySem.W.Frag) {e : Expr} {ta : TA} {p pos tpos : Pos} {elts : List Expr} {kk : Nat} (hg : Gl X "enumerate") (hm : X.mg "enumerate" = none) (ha : PA X [e] ta) (hs : starEach [e] X.env = [(false, eval e X.env)] := by rfl) (h : X.K = K := by rfl) :
    PI X (.Tuple elts kk tpos) (.Call (.Name "enumerate" p) [e] [] pos) (iEnum K ta) := h ▸ pi_enum hg hm ha hs
theorem k_piz (K : PySem.W.Frag) {e e2 : Expr} {ta : TA} {p pos tpos : Pos} {elts : List Expr} {kk : Nat} (hg : Gl X "zip") (hm : X.mg "zip" = none) (ha : PA X [e, e2] ta)
    (hs : starEach [e, e2] X.env = (false, eval e X.env) :: starEach [e2] X.env := by rfl) (hpl : (backTo pos (starEach [e2] X.env)).any (·.1) = false := by rfl) (h : X.K = K := by rfl) :
    PI X (.Tuple elts kk tpos) (.Call (.Name "zip" p) [e, e2] [] pos) (iZip K ta) := h ▸ pi_zip hg hm ha hs hpl
theorem k_gt (K : PySem.W.Frag) {es : List Expr} {k : Nat} {pos : Pos} {t : TGs} {n : Nat} (h : PGs X es t) (hc : X.calm = true := by rfl)
    (hn : (assignEach es X.env).length = n := by rfl) (hst : (assignEach es X.env).findIdx? (·.1) = none := by rfl) (hK : X.K = K := by rfl) : PG X (.Tuple es k pos) (gTup K n t) := hK ▸ pg_tup hc h hn hst
end

/-! ### ranges with a step, enumerate -/
section
variable {μ : Type → Type} {τ : Type} [Mir μ τ] {α β : Type} {p : Pt τ} {σ : St} {S H : Hp} {te ta tb tc : TE} {K : PySem.W.Frag}
def Rg3 (i j c : Int) : Prop := c ≠ 0 ∧ c.natAbs < 1073741824 ∧ Builtin.Range.small i j c = true ∧ 0 ≤ Builtin.Range.rangeSize i j c
instance (i j c : Int) : Decidable (Rg3 i j c) := inferInstanceAs (Decidable (_ ∧ _))
def rng3 (i j c : Int) : List Int := (List.range (Builtin.Range.rangeSize i j c).toNat).map fun (k : Nat) => i + (k : Int) * c
theorem it_rng3 {lo c : Int} {n : Nat} {O : Own} : ItOk p (Itc lo c n) ((List.range n).map fun (k : Nat) => lo + (k : Int) * c) rI S O := fun S1 H1 _ e2 _ => by
  refine ⟨fun i hi => by show i < n; simpa using hi, by show n ≤ _; simp, fun i x v H2 hx y => ?_⟩
  obtain ⟨e3, y⟩ := y
  subst e3
  subst y
  refine ⟨S1, Gm.rf e2, ?_⟩
  rw [List.getElem?_map] at hx
  have hi : i < n := by
    by_cases h : i < n
    · exact h
    · rw [List.getElem?_eq_none (by simpa using h)] at hx; cases hx
  rw [List.getElem?_eq_getElem (by simpa using hi)] at hx
  simp at hx
  show V.int _ = V.int _
  rw [← hx]
theorem i_R3 {m m' m'' : (Int → μ β) → μ β} (h : Ev p ta σ S H m rI) (h' : Ev p tb σ S H m' rI) (h'' : Ev p tc σ S H m'' rI) : EvI p (iRng3 (tCons ta (tCons tb (tCons tc tNil)))) σ S H (fun k => m fun i => m' fun j => m'' fun c => Mir.lft (grd (Rg3 i j c)) >>= fun _ => k (rng3 i j c)) rI [] := fun S1 H1 s g ps k z hm Q q =>
  h S1 H1 s g ps _ z hm _ fun i v S2 H2 s2 g2 p2 r hm2 => h' S2 H2 s2 (g.tr g2) p2 _ z hm2 _ fun j u S3 H3 s3 g3 p3 r3 hm3 => h'' S3 H3 s3 ((g.tr g2).tr g3) p3 _ z hm3 _ fun c y S4 H4 s4 g4 p4 r4 hm4 => by
    obtain ⟨_, e, hm5⟩ := run_of_lft hm4
    have hb := grd_of e
    cases (show v = .int i from r)
    cases (show u = .int j from r3)
    cases (show y = .int c from r4)
    exact ⟨i, j, c, (Builtin.Range.rangeSize i j c).toNat, rfl, ⟨hb.1, hb.2.1, hb.2.2.1, by have := hb.2.2.2; omega⟩, q _ _ S4 H4 s4 ((g2.tr g3).tr g4) p4 it_rng3 hm5⟩
def enum (xs : List α) : List (Int × α) := xs.zipIdx.map fun y => ((y.2 : Int), y.1)
theorem i_enum {m : (List α → μ β) → μ β} {R : Rp α} [Mo R] (h : Ev p te σ S H m (rL (aAll R))) : EvI p (iEnum K (tCons te tNil)) σ S H (fun k => m fun xs => k (enum xs)) (rT K (aCons rI (aOne R))) [] := fun S1 H1 s g ps k z hm Q q =>
  h S1 H1 s g ps _ z hm _ fun xs v S2 H2 s2 g2 p2 ⟨x, vs, e, h1, h2⟩ hm2 => ⟨x, vs, by rw [e], .of (g2.i _ _ h1), q _ _ S2 H2 s2 g2 p2 (fun S3 H3 e1 e2 _ => by
    have a2 : All R S2 xs vs := h2
    have hq : SqL K H3 x vs := .of (e2 _ _ (e1 _ _ h1))
    have ln : (enum xs).length = vs.length := by unfold enum; rw [List.length_map, List.length_zipIdx, a2.len]
    refine ⟨fun i hi => ⟨vs, vs[i]'(by rw [← ln]; exact hi), hq, List.getElem?_eq_getElem _⟩, ⟨vs, hq, by rw [ln]; exact Nat.le_refl _⟩, fun i y v H4 hx yl => ?_⟩
    obtain ⟨tp, u, e3, n, e4, yl⟩ := yl
    subst e3
    subst e4
    have hu := yl vs hq
    have hx' : xs.zipIdx[i]? = some (y.2, i) ∧ y.1 = (i : Int) := by
      unfold enum at hx
      rw [List.getElem?_map] at hx
      cases q2 : xs.zipIdx[i]? with
      | none => rw [q2] at hx; cases hx
      | some c =>
        rw [q2] at hx
        have e5 := Option.some.inj hx
        rw [List.getElem?_zipIdx] at q2
        cases q3 : xs[i]? with
        | none => rw [q3] at q2; cases q2
        | some d =>
          rw [q3] at q2
          have e6 := Option.some.inj q2
          rw [← e5, ← e6]
          simp
    rw [List.getElem?_zipIdx] at hx'
    obtain ⟨hx1, hx2⟩ := hx'
    have hx3 : xs[i]? = some y.2 := by
      cases q3 : xs[i]? with
      | none => rw [q3] at hx1; cases hx1
      | some d => rw [q3] at hx1; have := Option.some.inj hx1; simp at this; rw [this]
    obtain ⟨u', hu', ru⟩ := a2.get hx3
    rw [hu] at hu'
    cases hu'
    refine ⟨upd S3 tp (.tup [.int (i : Nat), u]), Gm.new e2 n, tp, _, rfl, .of upd_same, _, _, rfl, ?_, _, rfl, Mo.mo (e1.tr (Gm.new (M := []) e2 n).s) ru⟩
    show V.int _ = V.int _
    rw [hx2]) hm2⟩
end
end Wk
set_option Elab.async false
set_option maxRecDepth 100000
set_option maxHeartbeats 4000000
set_option linter.all false
/-! W6: == and != of data, the pot -/
namespace Wk
open PySem L2
open PyProof.Rows hiding St
section
variable {μ : Type → Type} {τ : Type} [Mir μ τ] {α β γ : Type} {p : Pt τ} {σ : St} {S H : Hp} {te ta tb : TE} {K : PySem.W.Frag}
/-- data that can be read for a while -/
def EvD (K : PySem.W.Frag) (p : Pt τ) (te : TE) (σ : St) (S H : Hp) (m : (PyData → μ β) → μ β) : Prop :=
  ∀ S1 H1 s, Gm p.M S H S1 H1 → PotAt p s S1 H1 → ∀ (k : PyData → μ β) z, Mir.run (m k) s = some z → ∀ Q : VK,
    (∀ d v S2 H2 s2, Gm p.M S1 H1 S2 H2 → PotAt p s2 S2 H2 → (∀ S3 H3, Gm p.M S2 H2 S3 H3 → Dp K H3 v d) → Mir.run (k d) s2 = some z → Q v H2) → te σ H1 Q
theorem Ev.D {R : Rp α} [Mo R] {d : α → PyData} {m : (α → μ β) → μ β} (h : Ev p te σ S H m R) (hd : isD K R d) : EvD K p te σ S H (fun k => m fun a => k (d a)) := fun S1 H1 s g ps k z hm Q q =>
  h S1 H1 s g ps _ z hm _ fun a v S2 H2 s2 g2 p2 r hm2 => q (d a) v S2 H2 s2 g2 p2 (fun S3 H3 g3 => hd a v S3 H3 (Mo.mo g3.s r) g3.i) hm2
theorem EvR.D {A : Rq α} [Mo A] {d : α → List PyData} {m : (α → μ β) → μ β} (h : EvR p te σ S H m A) (hd : isDs K A d) : EvD K p te σ S H (fun k => m fun a => k (.list (d a))) := fun S1 H1 s g ps k z hm Q q =>
  h S1 H1 s g ps _ z hm _ fun a x vs S2 H2 s2 g2 p2 e m2 r hm2 => q (.list (d a)) (.ref x) S2 H2 s2 g2 p2 (fun S3 H3 g3 => .lst (.of (g3.h _ _ m2 e)) (hd a vs S3 H3 (Mo.mo g3.s r) g3.i)) hm2
def ShD (d : PyData) : Prop := SeqAt.shaped d = true
instance (d : PyData) : Decidable (ShD d) := inferInstanceAs (Decidable (_ = true))
theorem e_eqD {m m' : (PyData → μ β) → μ β} (h : EvD K p ta σ S H m) (h' : EvD K p tb σ S H m') : Ev p (tOp (rEqD K) ta tb) σ S H (fun k => m fun d => m' fun e => Mir.lft (grd (ShD d ∧ ShD e)) >>= fun _ => k (PyData.eqv d e)) rB := fun S1 H1 s g ps k z hm Q q =>
  h S1 H1 s g ps _ z hm _ fun d v S2 H2 s2 g2 p2 r hm2 => h' S2 H2 s2 (g.tr g2) p2 _ z hm2 _ fun e u S3 H3 s3 g3 p3 r3 hm3 => by
    obtain ⟨_, e1, hm4⟩ := run_of_lft hm3
    have hc := grd_of e1
    exact ⟨d, e, r _ _ g3, r3 _ _ (Gm.rf g3.i), hc.1, hc.2, q _ _ S3 H3 s3 (g2.tr g3) p3 rfl hm4⟩
theorem e_neD {m m' : (PyData → μ β) → μ β} (h : EvD K p ta σ S H m) (h' : EvD K p tb σ S H m') : Ev p (tOp (rNeD K) ta tb) σ S H (fun k => m fun d => m' fun e => Mir.lft (grd (ShD d ∧ ShD e)) >>= fun _ => k (!PyData.eqv d e)) rB := fun S1 H1 s g ps k z hm Q q =>
  h S1 H1 s g ps _ z hm _ fun d v S2 H2 s2 g2 p2 r hm2 => h' S2 H2 s2 (g.tr g2) p2 _ z hm2 _ fun e u S3 H3 s3 g3 p3 r3 hm3 => by
    obtain ⟨_, e1, hm4⟩ := run_of_lft hm3
    have hc := grd_of e1
    exact ⟨d, e, r _ _ g3, r3 _ _ (Gm.rf g3.i), hc.1, hc.2, q _ _ S3 H3 s3 (g2.tr g3) p3 rfl hm4⟩
end
section
variable {X : Cx}
theorem k_eqD {k : Nat} (K : PySem.W.Frag) (hr : Room k X.A) (h : X.K = K := by rfl) : OpR X (compareOp .Eq) (rEqD K) := h ▸ op_eqD hr.units
theorem k_neD {k : Nat} (K : PySem.W.Frag) (hr : Room k X.A) (h : X.K = K := by rfl) : OpR X (compareOp .NotEq) (rNeD K) := h ▸ op_neD hr.units
end

/-! ### the pot -/
structure PotT where
  great : List Int
  mix : Int
  turn : Int
structure PotI where
  a : Addr
  g : Addr
  ne : a ≠ g
def potOf (hd : Addr → Int → Int → HO) (i : PotI) : Pt PotT := ⟨[i.a, i.g], fun s => [(i.a, hd i.g s.mix s.turn), (i.g, .lst (s.great.map V.int))], fun _ => rfl, by simp [i.ne]⟩
/-- a dict, a list -/
def hdD (k1 : Str) (g : Addr) (x y : Int) : HO := .dK [(.inr "great", .ref g), (.inr k1, .int x), (.inr "turn", .int y)]
def hdL (g : Addr) (x y : Int) : HO := .lst [.ref g, .int x, .int y]
def rP (i : PotI) : Rp Unit := fun _ v _ => v = .ref i.a
instance (i : PotI) : Mo (rP i) := ⟨fun _ h => h⟩
def rG (i : PotI) : Rp Unit := fun _ v _ => v = .ref i.g
instance (i : PotI) : Mo (rG i) := ⟨fun _ h => h⟩
def potS : PM PotT PotT := fun s => some (s, s)
def potW (f : PotT → PotT) : PM PotT Unit := fun s => some ((), f s)
section
variable {hd : Addr → Int → Int → HO} {i : PotI} {s : PotT} {S H : Hp}
theorem pot_hd (ps : PotAt (potOf hd i) s S H) : H i.a = some (hd i.g s.mix s.turn) ∧ S i.a = none := ps (i.a, _) (List.mem_cons_self ..)
theorem pot_gr (ps : PotAt (potOf hd i) s S H) : H i.g = some (.lst (s.great.map V.int)) ∧ S i.g = none := ps (i.g, _) (List.mem_cons_of_mem _ (List.mem_cons_self ..))
theorem pot_mk (h1 : H i.a = some (hd i.g s.mix s.turn)) (h2 : S i.a = none) (h3 : H i.g = some (.lst (s.great.map V.int))) (h4 : S i.g = none) : PotAt (potOf hd i) s S H := fun c hc => by
  rcases List.mem_cons.mp hc with e | hc
  · subst e; exact ⟨h1, h2⟩
  · rcases List.mem_cons.mp hc with e | hc
    · subst e; exact ⟨h3, h4⟩
    · exact nomatch hc
theorem Gm.inM {M : List Addr} {q : Addr} {u o : HO} (e : Ex S H) (hq : H q = some u) (hs : S q = none) (hM : q ∈ M) : Gm M S H S (upd H q o) := by
  refine ⟨Ex.rf, fun a x h => ?_, fun a x m h => ?_, fun a x h n => n, fun a x h => ?_⟩
  · rw [upd_ne (by rintro rfl; rw [hs] at h; cases h)]; exact e a x h
  · rw [upd_ne (by rintro rfl; exact m hM)]; exact h
  · by_cases z : a = q
    · subst z; exact ⟨o, upd_same⟩
    · exact ⟨x, by rw [upd_ne z]; exact h⟩
theorem pot_pg (e : Ex S H) (ps : PotAt (potOf hd i) s S H) (l : List Int) : PotAt (potOf hd i) { s with great := l } S (upd H i.g (.lst (l.map V.int))) ∧ Gm (potOf hd i).M S H S (upd H i.g (.lst (l.map V.int))) := by
  obtain ⟨h1, h2⟩ := pot_hd ps
  obtain ⟨h3, h4⟩ := pot_gr ps
  exact ⟨pot_mk (by rw [upd_ne i.ne]; exact h1) h2 upd_same h4, Gm.inM e h3 h4 (by simp [potOf])⟩
theorem pot_ph (e : Ex S H) (ps : PotAt (potOf hd i) s S H) (x y : Int) : PotAt (potOf hd i) { s with mix := x, turn := y } S (upd H i.a (hd i.g x y)) ∧ Gm (potOf hd i).M S H S (upd H i.a (hd i.g x y)) := by
  obtain ⟨h1, h2⟩ := pot_hd ps
  obtain ⟨h3, h4⟩ := pot_gr ps
  exact ⟨pot_mk upd_same h2 (by rw [upd_ne (Ne.symm i.ne)]; exact h3) h4, Gm.inM e h1 h2 (by simp [potOf])⟩
end
section
variable {β : Type} {hd : Addr → Int → Int → HO} {i : PotI} {σ : St} {S H : Hp} {te ta tb : TE} {K : PySem.W.Frag} {k1 : Str} {z : β × PotT} {L : List (Addr × HO)} {S0 H0 : Hp} {s : PotT} {tz : TS} {D : Ends}
/-- what is asked of the state -/
theorem e_pot {R : Rp α} (f : PotT → α) (rd : ∀ s S1 H1, Ex S1 H1 → PotAt (potOf hd i) s S1 H1 → ∀ Q : VK, (∀ v, R (f s) v S1 → Q v H1) → te σ H1 Q) : Ev (μ := PM PotT) (β := β) (potOf hd i) te σ S H (fun k => potS >>= fun s => k (f s)) R := fun S1 H1 s g ps k z hm Q q =>
  rd s S1 H1 g.i ps Q fun v r => q (f s) v S1 H1 s (Gm.rf g.i) ps r hm
/-! as a dict -/
theorem gt_ne : ("great" : Str) ≠ "turn" := by decide
theorem dD_G {j : Nat} (e : σ[j]? = some (some (.ref i.a))) : Ev (μ := PM PotT) (β := β) (potOf (hdD k1) i) (tDGet (tVar j) (tC (.str "great"))) σ S H (fun k => k ()) (rG i) := fun S1 H1 s g ps k z hm Q q =>
  ⟨.ref i.a, e, i.a, _, rfl, by have q1 := DGet.k (k := Sum.inr "great") (pot_hd ps).1; rw [valV_pos rfl] at q1; exact q1, q () _ S1 H1 s (Gm.rf g.i) ps rfl hm⟩
theorem dD_S {j : Nat} (e : σ[j]? = some (some (.ref i.a))) (hk : k1 ≠ "great" := by decide) : Ev (μ := PM PotT) (β := β) (potOf (hdD k1) i) (tDGet (tVar j) (tC (.str k1))) σ S H (fun k => potS >>= fun s => k s.mix) rI :=
  e_pot (α := Int) (fun s => s.mix) fun s S1 H1 ex ps Q q => ⟨.ref i.a, e, i.a, .int s.mix, rfl, by have q1 := DGet.k (k := Sum.inr k1) (pot_hd ps).1; rw [valV_neg (fun h => hk (Sum.inr.inj h).symm), valV_pos rfl] at q1; exact q1, q _ rfl⟩
theorem dD_T {j : Nat} (e : σ[j]? = some (some (.ref i.a))) (hk : k1 ≠ "turn" := by decide) : Ev (μ := PM PotT) (β := β) (potOf (hdD k1) i) (tDGet (tVar j) (tC (.str "turn"))) σ S H (fun k => potS >>= fun s => k s.turn) rI :=
  e_pot (α := Int) (fun s => s.turn) fun s S1 H1 ex ps Q q => ⟨.ref i.a, e, i.a, .int s.turn, rfl, by have q1 := DGet.k (k := Sum.inr "turn") (pot_hd ps).1; rw [valV_neg (fun h => absurd (Sum.inr.inj h) gt_ne), valV_neg (fun h => hk (Sum.inr.inj h)), valV_pos rfl] at q1; exact q1, q _ rfl⟩
theorem qD_S {j : Nat} {m : (Int → PM PotT β) → PM PotT β} {k : PM PotT β} (w : Wd (potOf (hdD k1) i) S0 H0 S H L) (ps : PotAt (potOf (hdD k1) i) s S H) (e : σ[j]? = some (some (.ref i.a))) (h : Ev (potOf (hdD k1) i) te σ S H m rI)
    (hm : Mir.run (m fun a => potW (fun s => { s with mix := a }) >>= fun _ => k) s = some z) (hk : k1 ≠ "great") (hk2 : k1 ≠ "turn")
    (nx : ∀ S1 H1 s1, Wd (potOf (hdD k1) i) S0 H0 S1 H1 L → PotAt (potOf (hdD k1) i) s1 S1 H1 → Gm (potOf (hdD k1) i).M S H S1 H1 → Mir.run k s1 = some z → tz D σ H1) : tSeq (sDPut (tVar j) (tC (.str k1)) te) tz D σ H :=
  h S H s (Gm.rf w.i) ps _ z hm _ fun a v S1 H1 s1 g p1 r hm1 => by
    cases (show v = .int a from r)
    obtain ⟨u, s2, e1, hm2⟩ := run_of_bind hm1
    cases e1
    obtain ⟨p2, g2⟩ := pot_ph g.i p1 a s1.turn
    refine ⟨.ref i.a, e, i.a, _, rfl, DPut.k (k := Sum.inr k1) (pot_hd p1).1 (by rw [sizeLine_eq]; simp), ?_⟩
    have e2 : putK [(Sum.inr (α := Int) ("great" : Str), V.ref i.g), (.inr k1, .int s1.mix), (.inr "turn", .int s1.turn)] (.inr k1) (.int a) = [(.inr "great", .ref i.g), (.inr k1, .int a), (.inr "turn", .int s1.turn)] := by
      simp [putK, Ne.symm hk, Ne.symm hk2]
    rw [e2]
    exact nx S1 _ _ ((w.go g).go g2) p2 (g.tr g2) hm2
theorem qD_T {j : Nat} {m : (Int → PM PotT β) → PM PotT β} {k : PM PotT β} (w : Wd (potOf (hdD k1) i) S0 H0 S H L) (ps : PotAt (potOf (hdD k1) i) s S H) (e : σ[j]? = some (some (.ref i.a))) (h : Ev (potOf (hdD k1) i) te σ S H m rI)
    (hm : Mir.run (m fun a => potW (fun s => { s with turn := a }) >>= fun _ => k) s = some z) (hk2 : k1 ≠ "turn")
    (nx : ∀ S1 H1 s1, Wd (potOf (hdD k1) i) S0 H0 S1 H1 L → PotAt (potOf (hdD k1) i) s1 S1 H1 → Gm (potOf (hdD k1) i).M S H S1 H1 → Mir.run k s1 = some z → tz D σ H1) : tSeq (sDPut (tVar j) (tC (.str "turn")) te) tz D σ H :=
  h S H s (Gm.rf w.i) ps _ z hm _ fun a v S1 H1 s1 g p1 r hm1 => by
    cases (show v = .int a from r)
    obtain ⟨u, s2, e1, hm2⟩ := run_of_bind hm1
    cases e1
    obtain ⟨p2, g2⟩ := pot_ph g.i p1 s1.mix a
    refine ⟨.ref i.a, e, i.a, _, rfl, DPut.k (k := Sum.inr "turn") (pot_hd p1).1 (by rw [sizeLine_eq]; simp), ?_⟩
    have e2 : putK [(Sum.inr (α := Int) ("great" : Str), V.ref i.g), (.inr k1, .int s1.mix), (.inr "turn", .int s1.turn)] (.inr "turn") (.int a) = [(.inr "great", .ref i.g), (.inr k1, .int s1.mix), (.inr "turn", .int a)] := by
      simp [putK, hk2, gt_ne]
    rw [e2]
    exact nx S1 _ _ ((w.go g).go g2) p2 (g.tr g2) hm2
/-! the great ones -/
theorem ints_data {l : List Int} : ∀ {H : Hp}, DpAll K H (l.map V.int) (l.map PyData.int) := by
  intro H
  induction l with
  | nil => exact .nil
  | cons a l ih => exact .cons (.int a) ih
def neG (s : PotT) : Bool := !s.great.isEmpty
theorem shaped_ints (l : List Int) : SeqAt.shaped (.list (l.map PyData.int)) = true := by
  have h1 : ∀ l : List Int, PyData.canLayAll0 (l.map PyData.int) = true := by
    intro l
    induction l with
    | nil => rfl
    | cons a l ih => rw [List.map_cons]; unfold PyData.canLayAll0; rw [ih]; rfl
  have h2 : ∀ l : List Int, PyData.depthAll (l.map PyData.int) ≤ 1 := by
    intro l
    induction l with
    | nil => decide
    | cons a l ih => rw [List.map_cons]; unfold PyData.depthAll; simp [PyData.depth]; omega
  unfold SeqAt.shaped
  have h3 : (PyData.list (l.map PyData.int)).canLay0 = true := by unfold PyData.canLay0; exact h1 l
  have h4 : (PyData.list (l.map PyData.int)).depth ≤ 64 := by unfold PyData.depth; have := h2 l; omega
  rw [h3]; simpa using h4
/-- great != [] -/
theorem e_neG {m : (Unit → PM PotT β) → PM PotT β} (h : Ev (potOf hd i) te σ S H m (rG i)) : Ev (potOf hd i) (tOp (rNeD K) te (tLst tNil)) σ S H (fun k => m fun _ => potS >>= fun s => k (neG s)) rB := fun S1 H1 s g ps k z hm Q q =>
  h S1 H1 s g ps _ z hm _ fun _ v S2 H2 s2 g2 p2 r hm2 => ⟨by rw [sizeLine_eq]; decide, fun x hx => by
    cases (show v = .ref i.g from r)
    have g3 : Gm (potOf hd i).M S2 H2 S2 (upd H2 x (.lst [])) := Gm.own g2.i hx
    have p3 := p2.go (Gm.own (M := []) (o := .lst []) g2.i hx)
    refine ⟨.list (s2.great.map PyData.int), .list [], .lst (.of (pot_gr p3).1) ints_data, .lst (.of upd_same) .nil, shaped_ints _, by decide, ?_⟩
    refine q _ _ S2 _ s2 (g2.tr g3) p3 ?_ hm2
    show V.bl _ = V.bl _
    congr 1
    unfold neG
    cases s2.great with
    | nil => rfl
    | cons a l => rfl⟩
theorem ty_G {s : PotT} (ps : PotAt (potOf hd i) s S H) : tyV K "list" (.ref i.g) H := .inl ⟨rfl, _, .of (pot_gr ps).1⟩
/-- great.pop(0) -/
def popG : PM PotT Int := fun s => match s.great with | [] => none | c :: r => some (c, { s with great := r })
theorem e_pop0 {m : (Unit → PM PotT β) → PM PotT β} (h : Ev (potOf hd i) te σ S H m (rG i)) : Ev (potOf hd i) (tBM K "list" rPopAt te (tCons (tC (.int 0)) tNil)) σ S H (fun k => m fun _ => popG >>= k) rI := fun S1 H1 s g ps k z hm Q q =>
  h S1 H1 s g ps _ z hm _ fun _ v S2 H2 s2 g2 p2 r hm2 => by
    cases (show v = .ref i.g from r)
    refine ⟨ty_G p2, ?_⟩
    obtain ⟨c, s3, e1, hm3⟩ := run_of_bind hm2
    have e1 : popG s2 = some (c, s3) := e1
    unfold popG at e1
    cases e : s2.great with
    | nil => rw [e] at e1; cases e1
    | cons b l =>
      rw [e] at e1
      obtain ⟨rfl, rfl⟩ := Prod.mk.inj (Option.some.inj e1)
      obtain ⟨p3, g3⟩ := pot_pg g2.i p2 l
      refine ⟨i.g, s2.great.map V.int, 0, 0, .int b, rfl, rfl, (pot_gr p2).1, by decide, by decide, ?_, by rw [e]; rfl, ?_⟩
      · rw [e]; simp [seqIndex?]
      rw [show (s2.great.map V.int).eraseIdx 0 = l.map V.int by rw [e]; rfl]
      exact q b _ S2 _ _ (g2.tr g3) p3 rfl hm3
/-- great.insert(0, e) -/
theorem e_ins0 {m : (Unit → PM PotT β) → PM PotT β} {m' : (Int → PM PotT β) → PM PotT β} (h : Ev (potOf hd i) te σ S H m (rG i)) (h' : Ev (potOf hd i) ta σ S H m' rI) :
    Ev (potOf hd i) (tBM K "list" (fun x vs H Q => ∃ (l : Addr) (xs : List V) (i : Int) (y : V), x = .ref l ∧ vs = [.int i, y] ∧ H l = some (.lst xs) ∧ xs.length < sizeLine ∧ 0 ≤ i ∧ i < 2 ^ 63 ∧ Q .non (upd H l (.lst (xs.take i.toNat ++ [y] ++ xs.drop i.toNat)))) te (tCons (tC (.int 0)) (tCons ta tNil))) σ S H
      (fun k => m fun _ => m' fun a => potS >>= fun s => Mir.lft (grd (s.great.length < 16000000)) >>= fun _ => potW (fun s => { s with great := a :: s.great }) >>= k) rN := fun S1 H1 s g ps k z hm Q q =>
  h S1 H1 s g ps _ z hm _ fun _ v S2 H2 s2 g2 p2 r hm2 => by
    cases (show v = .ref i.g from r)
    refine ⟨ty_G p2, h' S2 H2 s2 (g.tr g2) p2 _ z hm2 _ fun a u S3 H3 s3 g3 p3 r3 hm3 => ?_⟩
    cases (show u = .int a from r3)
    obtain ⟨s4, s5, e1, hm4⟩ := run_of_bind hm3
    cases e1
    obtain ⟨_, e2, hm5⟩ := run_of_lft hm4
    have hl := grd_of e2
    obtain ⟨_, s6, e3, hm6⟩ := run_of_bind hm5
    cases e3
    obtain ⟨p4, g4⟩ := pot_pg g3.i p3 (a :: s3.great)
    refine ⟨i.g, s3.great.map V.int, 0, .int a, rfl, rfl, (pot_gr p3).1, by rw [List.length_map, sizeLine_eq]; omega, by decide, by decide, ?_⟩
    rw [show ((s3.great.map V.int).take (0 : Int).toNat ++ [V.int a] ++ (s3.great.map V.int).drop (0 : Int).toNat) = (a :: s3.great).map V.int by simp]
    exact q () _ S3 _ _ ((g2.tr g3).tr g4) p4 rfl hm6
/-- an expression for what it does -/
theorem q_dropE {α : Type} {m : (α → PM PotT β) → PM PotT β} {R : Rp α} {p : Pt PotT} {k : α → PM PotT β} (w : Wd p S0 H0 S H L) (ps : PotAt p s S H) (h : Ev p te σ S H m R) (hm : Mir.run (m k) s = some z)
    (nx : ∀ a S1 H1 s1, Wd p S0 H0 S1 H1 L → PotAt p s1 S1 H1 → Gm p.M S H S1 H1 → Mir.run (k a) s1 = some z → tz D σ H1) : tSeq (tDrop te) tz D σ H :=
  h S H s (Gm.rf w.i) ps _ z hm _ fun a v S1 H1 s1 g p1 r hm1 => nx a S1 H1 s1 (w.go g) p1 g hm1
end
end Wk
set_option Elab.async false
set_option maxRecDepth 100000
set_option maxHeartbeats 4000000
set_option linter.all false
/-! W7: slices, the script, the pot's making -/
namespace Wk
open PySem L2
open PyProof.Rows hiding St
section
variable {μ : Type → Type} {τ : Type} [Mir μ τ] {α β γ : Type} {p : Pt τ} {σ : St} {S H : Hp} {te ta tb : TE} {K : PySem.W.Frag}
/-- a part of a slice -/
def EvO (p : Pt τ) (to : TO) (σ : St) (S H : Hp) (m : (Option Int → μ β) → μ β) : Prop :=
  ∀ S1 H1 s, Gm p.M S H S1 H1 → PotAt p s S1 H1 → ∀ (k : Option Int → μ β) z, Mir.run (m k) s = some z → ∀ Q : Option Int → Hp → Prop,
    (∀ a S2 H2 s2, Gm p.M S1 H1 S2 H2 → PotAt p s2 S2 H2 → Mir.run (k a) s2 = some z → Q a H2) → to σ H1 Q
theorem o_no : EvO (μ := μ) (β := β) p tNoPart σ S H (fun k => k none) := fun _ _ _ g ps _ _ hm _ q => q _ _ _ _ (Gm.rf g.i) ps hm
theorem o_some {m : (Int → μ β) → μ β} (h : Ev p te σ S H m rI) : EvO p (tPart te) σ S H (fun k => m fun a => k (some a)) := fun S1 H1 s g ps k z hm Q q =>
  h S1 H1 s g ps _ z hm _ fun a v S2 H2 s2 g2 p2 r hm2 => ⟨a, r, q _ S2 H2 s2 g2 p2 hm2⟩
def cut (xs : List α) (lo hi : Option Int) : List α := (xs.drop (HT.sIx xs.length 0 lo)).take (HT.sIx xs.length xs.length hi - HT.sIx xs.length 0 lo)
theorem All.cut {R : Rp α} {xs : List α} {vs : List V} (h : All R S xs vs) (lo hi : Option Int) : All R S (cut xs lo hi) (cutV vs lo hi) := by
  unfold Wk.cut cutV
  rw [← h.len]
  exact (h.drop _).take _
theorem l_cut {R : Rp α} {m : (List α → μ β) → μ β} {ml mh : (Option Int → μ β) → μ β} {tl th : TO} [Mo R] (h : EvR p te σ S H m (aAll R)) (hl : EvO p tl σ S H ml) (hh : EvO p th σ S H mh) :
    EvL p (tSl (rSlL K) te tl th) σ S H (fun k => m fun xs => ml fun lo => mh fun hi => k (cut xs lo hi)) (aAll R) := fun S1 H1 s g ps k z hm Q q =>
  h S1 H1 s g ps _ z hm _ fun xs x vs S2 H2 s2 g2 p2 e2 m2 r2 hm2 => hl S2 H2 s2 (g.tr g2) p2 _ z hm2 _ fun lo S3 H3 s3 g3 p3 hm3 => hh S3 H3 s3 ((g.tr g2).tr g3) p3 _ z hm3 _ fun hi S4 H4 s4 g4 p4 hm4 =>
    ⟨x, vs, rfl, .of (g4.h _ _ m2 (g3.h _ _ m2 e2)), fun y hy => by
      have g5 := (g2.tr g3).tr g4
      have n1 : H1 y = none := by
        cases e : H1 y with
        | none => rfl
        | some u => obtain ⟨u', e'⟩ := g5.t y u e; rw [hy] at e'; cases e'
      have a2 : All R S2 xs vs := r2
      exact q (cut xs lo hi) y (cutV vs lo hi) S4 _ s4 (g5.tr (Gm.own g4.i hy)) (p4.go (Gm.own g4.i hy)) n1 upd_same (g4.i.no hy) (new_nM p4 hy) ((a2.mo (g3.s.tr g4.s)).cut lo hi) hm4⟩
/-- the script -/
def rX (K : PySem.W.Frag) : Rp (List Int) := fun xs v S => ∃ a, v = .ref a ∧ SqL K S a (xs.map V.int)
instance (K : PySem.W.Frag) : Mo (rX K) := ⟨fun e ⟨a, h1, h2⟩ => ⟨a, h1, sqL_ex e h2⟩⟩
theorem c_lenX {m : (List Int → μ β) → μ β} (h : Ev p te σ S H m (rX K)) : Ev p (tCB (fun xs H Q => ∃ p ys, xs = [.ref p] ∧ (SqL K H p ys ∨ SqT K H p ys) ∧ Q (.int ys.length) H) (tCons te tNil)) σ S H (fun k => m fun xs => k (xs.length : Int)) rI := fun S1 H1 s g ps k z hm Q q =>
  h S1 H1 s g ps _ z hm _ fun xs v S2 H2 s2 g2 p2 ⟨x, e2, r2⟩ hm2 => by
    subst e2
    exact ⟨x, _, rfl, .inl (sqL_ex g2.i r2), q _ _ S2 H2 s2 g2 p2 (by show V.int _ = V.int _; rw [List.length_map]) hm2⟩
theorem l_cutX {m : (List Int → μ β) → μ β} {ml mh : (Option Int → μ β) → μ β} {tl th : TO} (h : Ev p te σ S H m (rX K)) (hl : EvO p tl σ S H ml) (hh : EvO p th σ S H mh) :
    EvL p (tSl (rSlL K) te tl th) σ S H (fun k => m fun xs => ml fun lo => mh fun hi => k (cut xs lo hi)) (aAll rI) := fun S1 H1 s g ps k z hm Q q =>
  h S1 H1 s g ps _ z hm _ fun xs v S2 H2 s2 g2 p2 ⟨x, e2, r2⟩ hm2 => hl S2 H2 s2 (g.tr g2) p2 _ z hm2 _ fun lo S3 H3 s3 g3 p3 hm3 => hh S3 H3 s3 ((g.tr g2).tr g3) p3 _ z hm3 _ fun hi S4 H4 s4 g4 p4 hm4 =>
    ⟨x, _, e2, sqL_ex ((g3.s.tr g4.s).tr g4.i) r2, fun y hy => by
      have g5 := (g2.tr g3).tr g4
      have n1 : H1 y = none := by
        cases e : H1 y with
        | none => rfl
        | some u => obtain ⟨u', e'⟩ := g5.t y u e; rw [hy] at e'; cases e'
      exact q (cut xs lo hi) y (cutV (xs.map V.int) lo hi) S4 _ s4 (g5.tr (Gm.own g4.i hy)) (p4.go (Gm.own g4.i hy)) n1 upd_same (g4.i.no hy) (new_nM p4 hy) ((All.ofInts xs).cut lo hi) hm4⟩
end
section
variable {X : Cx}
theorem k_sll (K : PySem.W.Frag) (h : X.K = K := by rfl) : SlR X (rSlL K) := h ▸ sl_list
end
section
variable {β : Type} {σ : St} {S H S0 H0 : Hp} {te t1 t2 : TE} {K : PySem.W.Frag} {k1 : Str} {z : β × Unit} {hd : Addr → Int → Int → HO} {tz : TS} {D : Ends} {L : List (Addr × HO)} {s : Unit}
/-- a new pot -/
def EvP (hd : Addr → Int → Int → HO) (te : TE) (σ : St) (S H : Hp) (m : (PotT → Option β) → Option β) : Prop := ∀ S1 H1, Gm [] S H S1 H1 → ∀ (k : PotT → Option β) z, Mir.run (m k) () = some z → ∀ Q : VK,
  (∀ s i S2 H2, Gm [] S1 H1 S2 H2 → PotAt (potOf hd i) s S2 H2 → H1 i.a = none → H1 i.g = none → Mir.run (k s) () = some z → Q (.ref i.a) H2) → te σ H1 Q
theorem back_none {S H S' H' : Hp} {M : List Addr} (g : Gm M S H S' H') {x : Addr} (hx : H' x = none) : H x = none := by
  cases e : H x with
  | none => rfl
  | some u => obtain ⟨u', e'⟩ := g.t x u e; rw [hx] at e'; cases e'
theorem pot_disp {m1 : (List Int → Option β) → Option β} {m2 : (Int → Option β) → Option β} (h1 : EvL pt0 t1 σ S H m1 (aAll rI)) (h2 : Ev pt0 t2 σ S H m2 rI) (hk : k1 ≠ "great") (hk2 : k1 ≠ "turn") :
    EvP (hdD k1) (tDisp [(tC (.str "great"), t1), (tC (.str k1), t2), (tC (.str "turn"), tC (.int 0))]) σ S H (fun k => m1 fun l => m2 fun x => k ⟨l, x, 0⟩) := fun S1 H1 g k z hm Q q p hp => by
  have g2 : Gm [] S1 H1 S1 (upd H1 p (.dK [])) := Gm.own g.i hp
  show t1 σ _ _
  refine h1 S1 _ () (g.tr g2) pot0' _ z hm _ fun l q1 vs S3 H3 _ g3 _ n3 e3 s3 _ r3 hm3 => ?_
  show t2 σ _ _
  refine h2 S3 H3 () ((g.tr g2).tr g3) pot0' _ z hm3 _ fun x v S4 H4 _ g4 _ r4 hm4 => ?_
  cases (show v = .int x from r4)
  have ed : H4 p = some (.dK []) := g4.h _ _ (by simp [pt0]) (g3.h _ _ (by simp [pt0]) upd_same)
  have eg : H4 q1 = some (.lst vs) := g4.h _ _ (by simp [pt0]) e3
  have sp : S4 p = none := (g3.tr g4).f _ _ upd_same (g.i.no hp)
  have sg : S4 q1 = none := g4.f _ _ e3 s3
  have ne : p ≠ q1 := by
    rintro rfl
    rw [upd_same] at n3
    cases n3
  refine ⟨ed, [(.inr "great", .ref q1), (.inr k1, .int x), (.inr "turn", .int 0)], rfl, by simp, ?_⟩
  have em : mergeK ([] : List (Key × V)) [(.inr "great", .ref q1), (.inr k1, .int x), (.inr "turn", .int 0)] = [(.inr "great", .ref q1), (.inr k1, .int x), (.inr "turn", .int 0)] := by
    simp [mergeK, putK, Ne.symm hk, hk, hk2, gt_ne]
  rw [em]
  have hv : vs = l.map V.int := All.ints r3
  subst hv
  refine q ⟨l, x, 0⟩ ⟨p, q1, ne⟩ S4 _ ⟨((g2.tr g3).tr g4).s, fun a u e => ?_, fun a u _ e => ?_, ((g2.tr g3).tr g4).f, fun a u e => ?_⟩ (pot_mk upd_same sp (by rw [upd_ne (Ne.symm ne)]; exact eg) sg) hp ?_ hm4
  · rw [upd_ne (by rintro rfl; rw [sp] at e; cases e)]; exact g4.i a u e
  · rw [upd_ne (by rintro rfl; rw [hp] at e; cases e)]
    exact ((g2.tr g3).tr g4).h a u (by simp) e
  · by_cases z : a = p
    · subst z; rw [hp] at e; cases e
    · obtain ⟨u', e'⟩ := ((g2.tr g3).tr g4).t a u e
      exact ⟨u', by rw [upd_ne z]; exact e'⟩
  · exact back_none g2 n3
theorem q_retP {m : (PotT → Option β) → Option β} {k : PotT → Option β} (w : Wd pt0 S0 H0 S H L) (h : EvP hd te σ S H m) (hm : Mir.run (m fun a => bnd a k) () = some z)
    (nx : ∀ s i S1 H1, Gm [] S0 H0 S1 H1 → PotAt (potOf hd i) s S1 H1 → H0 i.a = none → H0 i.g = none → Mir.run (k s) () = some z → D.rt (.ref i.a) H1) : tSeq (tRet te) tz D σ H :=
  h S H (Gm.rf w.i) _ z hm _ fun s i S1 H1 g1 p1 n1 n2 hm1 => nx s i S1 H1 (w.g.tr g1) p1 (back_none w.g n1) (back_none w.g n2) hm1
def spP (hd : Addr → Int → Int → HO) (fm : List Int → Option PotT) (K : PySem.W.Frag) : Sp := fun vs H Q _ => ∃ a S s, Ex S H ∧ (aOne (rX K)) a vs S ∧ fm a = some s ∧
  ∀ i S' H', Gm [] S H S' H' → PotAt (potOf hd i) s S' H' → H i.a = none → H i.g = none → Q (.ref i.a) H'
/-- the law's first line -/
theorem q_pot {fm : List Int → Option PotT} {j : Nat} {v : V} {a : List Int} {s : PotT} (ex : Ex S H) (e : σ[0]? = some (some v)) (r : rX K a v S) (hf : fm a = some s) (σ' : V → St) (hσ : ∀ v, σ.set j (some v) = σ' v)
    (nx : ∀ i S1 H1, Wd (potOf hd i) S1 H1 S1 H1 [] → PotAt (potOf hd i) s S1 H1 → Ex S S1 → tz D (σ' (.ref i.a)) H1) : tSeq (tAsg (tCall (spP hd fm K) [] E0 (tCons (tVar 0) tNil)) (gName j)) tz D σ H :=
  ⟨v, e, a, S, s, ex, ⟨v, rfl, r⟩, hf, fun i S1 H1 g1 p1 _ _ => by
    have q := nx i S1 H1 (Wd.start g1.i) p1 g1.s
    rw [← hσ] at q
    exact q⟩
/-- the law's promise: its answer is True -/
def spLaw (K : PySem.W.Frag) (ok : List Int → Prop) : Sp := fun vs H Q _ => ∃ a, (aOne (rX K)) a vs H ∧ ok a ∧ ∀ H', Q (.bl true) H'
end
end Wk
set_option Elab.async false
set_option maxRecDepth 100000
set_option maxHeartbeats 4000000
set_option linter.all false
/-! W8: sums of tuples, the pot as a list -/
namespace Wk
open PySem L2
open PyProof.Rows hiding St
def rSumT (K : PySem.W.Frag) : List V → Hp → VK → Prop := fun vs H Q => ∃ (a : Addr) (ns : List Int), vs = [V.ref a] ∧ SqT K H a (ns.map V.int) ∧ Q (.int ns.sum) H
section
variable {X : Cx}
theorem cr_sumT (hc : X.calm = true) : CallR X (.builtin "sum") (rSumT X.K) := by
  intro pins s σ H vs us Q I r h
  obtain ⟨a, ns, rfl, hs, q⟩ := h
  obtain ⟨its, rv, ht, _⟩ := I.tuple hs
  rw [Vals.ref1 r]
  have ht : s.heap.IsTuple a its.toArray := by
    obtain ⟨o, ho, hcl, n, hd⟩ := ht
    exact ⟨o, ho, hcl, n, hd⟩
  have hi : IntsAre its ns := rv.ints
  obtain ⟨xs, hx⟩ := hi.allInts.items
  have hn : numsOf its.toArray.toList = ns := by rw [show its.toArray.toList = its from rfl, hi.numsOf]
  rw [hx] at ht hn
  rw [nums_intItems] at hn
  refine PySem.W.ktm_sumG (I.ok.hd hc) ht fun h' tk t' hk => ⟨.int ns.sum, H, I.kept hk, ?_, q⟩
  rw [preSum_eq, List.take_of_length_le (by simp), hn]
  exact ⟨_, rfl⟩
theorem k_sumT (K : PySem.W.Frag) (hc : X.calm = true := by rfl) (h : X.K = K := by rfl) : CallR X (.builtin "sum") (rSumT K) := h ▸ cr_sumT hc
end
section
variable {μ : Type → Type} {τ : Type} [Mir μ τ] {α β : Type} {p : Pt τ} {σ : St} {S H : Hp} {te ta tb : TE} {K : PySem.W.Frag}
theorem c_sumT {m : (List Int → μ β) → μ β} (h : Ev p te σ S H m (rT K (aAll rI))) : Ev p (tCB (rSumT K) (tCons te tNil)) σ S H (fun k => m fun xs => k xs.sum) rI := fun S1 H1 s g ps k z hm Q q =>
  h S1 H1 s g ps _ z hm _ fun xs v S2 H2 s2 g2 p2 ⟨x, vs, e2, h2, r2⟩ hm2 => ⟨x, xs, by rw [e2], by rw [← All.ints r2]; exact sqT_ex g2.i h2, q _ _ S2 H2 s2 g2 p2 rfl hm2⟩
end
section
variable {β : Type} {i : PotI} {σ : St} {S H S0 H0 : Hp} {te ta tb t1 t2 : TE} {K : PySem.W.Frag} {z : β × PotT} {L : List (Addr × HO)} {s : PotT} {tz : TS} {D : Ends} {hd : Addr → Int → Int → HO}
/-! as a list -/
theorem dL_ix {j : Nat} {c : Int} {v : V} (ps : PotAt (potOf hdL i) s S H) (e : σ[j]? = some (some (.ref i.a))) (hv : atI [V.ref i.g, .int s.mix, .int s.turn] c = some v) {Q : VK} (q : Q v H) : tOp (rIxL K) (tVar j) (tC (.int c)) σ H Q :=
  ⟨.ref i.a, e, i.a, _, c, v, rfl, rfl, .of (pot_hd ps).1, hv, q⟩
theorem dL_G {j : Nat} (e : σ[j]? = some (some (.ref i.a))) : Ev (μ := PM PotT) (β := β) (potOf hdL i) (tOp (rIxL K) (tVar j) (tC (.int 0))) σ S H (fun k => k ()) (rG i) := fun S1 H1 s g ps k z hm Q q =>
  dL_ix ps e rfl (q () _ S1 H1 s (Gm.rf g.i) ps rfl hm)
theorem dL_S {j : Nat} (e : σ[j]? = some (some (.ref i.a))) : Ev (μ := PM PotT) (β := β) (potOf hdL i) (tOp (rIxL K) (tVar j) (tC (.int 1))) σ S H (fun k => potS >>= fun s => k s.mix) rI :=
  e_pot (α := Int) (fun s => s.mix) fun s S1 H1 ex ps Q q => dL_ix ps e rfl (q _ rfl)
theorem dL_T {j : Nat} (e : σ[j]? = some (some (.ref i.a))) : Ev (μ := PM PotT) (β := β) (potOf hdL i) (tOp (rIxL K) (tVar j) (tC (.int 2))) σ S H (fun k => potS >>= fun s => k s.turn) rI :=
  e_pot (α := Int) (fun s => s.turn) fun s S1 H1 ex ps Q q => dL_ix ps e rfl (q _ rfl)
theorem qL_T {j : Nat} {m : (Int → PM PotT β) → PM PotT β} {k : PM PotT β} (w : Wd (potOf hdL i) S0 H0 S H L) (ps : PotAt (potOf hdL i) s S H) (e : σ[j]? = some (some (.ref i.a))) (h : Ev (potOf hdL i) te σ S H m rI)
    (hm : Mir.run (m fun a => potW (fun s => { s with turn := a }) >>= fun _ => k) s = some z)
    (nx : ∀ S1 H1 s1, Wd (potOf hdL i) S0 H0 S1 H1 L → PotAt (potOf hdL i) s1 S1 H1 → Gm (potOf hdL i).M S H S1 H1 → Mir.run k s1 = some z → tz D σ H1) : tSeq (tAsg te (gSub (tVar j) (tC (.int 2)) rSetL)) tz D σ H :=
  h S H s (Gm.rf w.i) ps _ z hm _ fun a v S1 H1 s1 g p1 r hm1 => by
    cases (show v = .int a from r)
    obtain ⟨u, s2, e1, hm2⟩ := run_of_bind hm1
    cases e1
    obtain ⟨p2, g2⟩ := pot_ph g.i p1 s1.mix a
    exact ⟨.ref i.a, e, i.a, _, 2, 2, rfl, rfl, (pot_hd p1).1, rfl, nx S1 _ _ ((w.go g).go g2) p2 (g.tr g2) hm2⟩
/-- great.pop() -/
def popL : PM PotT Int := fun s => match s.great.getLast? with | none => none | some c => some (c, { s with great := s.great.dropLast })
theorem e_popL {m : (Unit → PM PotT β) → PM PotT β} (h : Ev (potOf hd i) te σ S H m (rG i)) : Ev (potOf hd i) (tBM0 K "list" rPop te) σ S H (fun k => m fun _ => popL >>= k) rI := fun S1 H1 s g ps k z hm Q q =>
  h S1 H1 s g ps _ z hm _ fun _ v S2 H2 s2 g2 p2 r hm2 => by
    cases (show v = .ref i.g from r)
    refine ⟨ty_G p2, ?_⟩
    obtain ⟨c, s3, e1, hm3⟩ := run_of_bind hm2
    have e1 : popL s2 = some (c, s3) := e1
    unfold popL at e1
    cases e : s2.great.getLast? with
    | none => rw [e] at e1; cases e1
    | some b =>
      rw [e] at e1
      obtain ⟨rfl, rfl⟩ := Prod.mk.inj (Option.some.inj e1)
      obtain ⟨p3, g3⟩ := pot_pg g2.i p2 s2.great.dropLast
      refine ⟨i.g, s2.great.map V.int, .int b, rfl, rfl, (pot_gr p2).1, ?_, ?_⟩
      · rw [List.length_map, List.getElem?_map, ← List.getLast?_eq_getElem?, e]; rfl
      rw [← List.map_dropLast]
      exact q b _ S2 _ _ (g2.tr g3) p3 rfl hm3
/-- great.append(e) -/
theorem e_appG {m : (Unit → PM PotT β) → PM PotT β} {m' : (Int → PM PotT β) → PM PotT β} (h : Ev (potOf hd i) te σ S H m (rG i)) (h' : Ev (potOf hd i) ta σ S H m' rI) : Ev (potOf hd i) (tBM K "list" rAppend te (tCons ta tNil)) σ S H
      (fun k => m fun _ => m' fun a => potS >>= fun s => Mir.lft (grd (s.great.length < 16000000)) >>= fun _ => potW (fun s => { s with great := s.great ++ [a] }) >>= k) rN := fun S1 H1 s g ps k z hm Q q =>
  h S1 H1 s g ps _ z hm _ fun _ v S2 H2 s2 g2 p2 r hm2 => by
    cases (show v = .ref i.g from r)
    refine ⟨ty_G p2, h' S2 H2 s2 (g.tr g2) p2 _ z hm2 _ fun a u S3 H3 s3 g3 p3 r3 hm3 => ?_⟩
    cases (show u = .int a from r3)
    obtain ⟨s4, s5, e1, hm4⟩ := run_of_bind hm3
    cases e1
    obtain ⟨_, e2, hm5⟩ := run_of_lft hm4
    have hl := grd_of e2
    obtain ⟨_, s6, e3, hm6⟩ := run_of_bind hm5
    cases e3
    obtain ⟨p4, g4⟩ := pot_pg g3.i p3 (s3.great ++ [a])
    refine ⟨i.g, s3.great.map V.int, .int a, rfl, rfl, (pot_gr p3).1, by rw [List.length_map, sizeLine_eq]; omega, ?_⟩
    rw [show (s3.great.map V.int ++ [V.int a]) = (s3.great ++ [a]).map V.int by simp]
    exact q () _ S3 _ _ ((g2.tr g3).tr g4) p4 rfl hm6
end
section
variable {β : Type} {σ : St} {S H : Hp} {t1 t2 : TE}
theorem pot_lst {m1 : (List Int → Option β) → Option β} {m2 : (Int → Option β) → Option β} (h1 : EvL pt0 t1 σ S H m1 (aAll rI)) (h2 : Ev pt0 t2 σ S H m2 rI) :
    EvP hdL (tLst (tCons t1 (tCons t2 (tCons (tC (.int 0)) tNil)))) σ S H (fun k => m1 fun l => m2 fun x => k ⟨l, x, 0⟩) := fun S1 H1 g k z hm Q q => by
  refine h1 S1 H1 () g pot0' _ z hm _ fun l q1 vs S3 H3 _ g3 _ n3 e3 s3 _ r3 hm3 => ?_
  refine h2 S3 H3 () (g.tr g3) pot0' _ z hm3 _ fun x v S4 H4 _ g4 _ r4 hm4 => ?_
  cases (show v = .int x from r4)
  have eg : H4 q1 = some (.lst vs) := g4.h _ _ (by simp [pt0]) e3
  have sg : S4 q1 = none := g4.f _ _ e3 s3
  have hv : vs = l.map V.int := All.ints r3
  subst hv
  refine ⟨by rw [sizeLine_eq]; simp, fun p hp => ?_⟩
  have ne : p ≠ q1 := by
    rintro rfl
    rw [eg] at hp
    cases hp
  have g5 : Gm [] S4 H4 S4 (upd H4 p (.lst [.ref q1, .int x, .int 0])) := Gm.own g4.i hp
  exact q ⟨l, x, 0⟩ ⟨p, q1, ne⟩ S4 _ ((g3.tr g4).tr g5) (pot_mk upd_same (g4.i.no hp) (by rw [upd_ne (Ne.symm ne)]; exact eg) sg) (back_none (g3.tr g4) hp) n3 hm4
end
end Wk
set_option Elab.async false
set_option maxRecDepth 100000
set_option maxHeartbeats 4000000
set_option linter.all false
/-! W9: what is never reached, typed ==, sorted, tuples taken apart -/
namespace Wk
open PySem L2
open PyProof.Rows hiding St
theorem ps_dead {X : Cx} {st : Stmt} : PS X st (fun _ _ _ => False) := ⟨fun _ _ _ _ _ _ h => h.elim⟩
section
variable {μ : Type → Type} {τ : Type} [Mir μ τ] {α β γ : Type} {p : Pt τ} {σ : St} {S H S0 H0 : Hp} {te ta tb : TE} {K : PySem.W.Frag} {s : τ} {tz : TS} {D : Ends} {z : β × τ}
/-- a raise that is never reached -/
theorem q_dead {k : Unit → μ β} (hm : Mir.run (Mir.lft (none : Option Unit) >>= k) s = some z) : tSeq (fun _ _ _ => False) tz D σ H := by
  obtain ⟨_, e, _⟩ := run_of_lft hm
  cases e
/-- x is True, x is False -/
theorem e_isB {m m' : (Bool → μ β) → μ β} (h : Ev p ta σ S H m rB) (h' : Ev p tb σ S H m' rB) : Ev p (tOp rIsB ta tb) σ S H (fun k => m fun a => m' fun b => k (decide (a = b))) rB := fun S1 H1 s g ps k z hm Q q =>
  h S1 H1 s g ps _ z hm _ fun a v S2 H2 s2 g2 p2 r hm2 => h' S2 H2 s2 (g.tr g2) p2 _ z hm2 _ fun b u S3 H3 s3 g3 p3 r3 hm3 => ⟨a, b, r, r3, q _ _ S3 H3 s3 (g2.tr g3) p3 rfl hm3⟩
theorem e_notB {m m' : (Bool → μ β) → μ β} (h : Ev p ta σ S H m rB) (h' : Ev p tb σ S H m' rB) : Ev p (tOp rNotB ta tb) σ S H (fun k => m fun a => m' fun b => k (!decide (a = b))) rB := fun S1 H1 s g ps k z hm Q q =>
  h S1 H1 s g ps _ z hm _ fun a v S2 H2 s2 g2 p2 r hm2 => h' S2 H2 s2 (g.tr g2) p2 _ z hm2 _ fun b u S3 H3 s3 g3 p3 r3 hm3 => ⟨a, b, r, r3, q _ _ S3 H3 s3 (g2.tr g3) p3 rfl hm3⟩
theorem Ev.eta {m : (α → μ β) → μ β} {R : Rp α} (h : Ev p te σ S H (fun k => m k) R) : Ev p te σ S H m R := h
theorem EvL.eta {m : (α → μ β) → μ β} {A : Rq α} (h : EvL p te σ S H (fun k => m k) A) : EvL p te σ S H m A := h
/-! ### == of values of one kind -/
/-- data that is told apart as the values are -/
structure EqD (D : Nat) (d : α → PyData) : Prop where
  e : ∀ a b, PyData.eqv (d a) (d b) = true ↔ a = b
  l : ∀ a, (d a).canLay0 = true
  d : ∀ a, (d a).depth ≤ D
structure EqDs (D : Nat) (d : α → List PyData) : Prop where
  e : ∀ a b, PyData.eqvAll (d a) (d b) = true ↔ a = b
  l : ∀ a, PyData.canLayAll0 (d a) = true
  d : ∀ a, PyData.depthAll (d a) ≤ D
theorem q_I : EqD 0 PyData.int := ⟨fun a b => by simp only [PyData.eqv]; exact beq_iff_eq, fun _ => rfl, fun _ => by simp only [PyData.depth]; exact Nat.le_refl _⟩
theorem q_B : EqD 0 PyData.bool := ⟨fun a b => by simp only [PyData.eqv]; exact beq_iff_eq, fun _ => rfl, fun _ => by simp only [PyData.depth]; exact Nat.le_refl _⟩
theorem qs_nil : EqDs 0 (fun _ : Unit => []) := ⟨fun a b => by simp only [PyData.eqvAll], fun _ => rfl, fun _ => by simp only [PyData.depthAll]; exact Nat.le_refl _⟩
theorem qs_one {n : Nat} {d : α → PyData} (h : EqD n d) : EqDs n (fun a => [d a]) := ⟨fun a b => by simp only [PyData.eqvAll, Bool.and_true]; exact h.e a b, fun a => by simp only [PyData.canLayAll0, Bool.and_true]; exact h.l a, fun a => by simp only [PyData.depthAll]; have := h.d a; omega⟩
theorem qs_cons {n m : Nat} {d : α → PyData} {ds : γ → List PyData} (h : EqD n d) (h' : EqDs m ds) : EqDs (max n m) (fun a : α × γ => d a.1 :: ds a.2) :=
  ⟨fun a b => by simp only [PyData.eqvAll, Bool.and_eq_true]; rw [h.e, h'.e]; exact Prod.ext_iff.symm, fun a => by simp only [PyData.canLayAll0, Bool.and_eq_true]; exact ⟨h.l _, h'.l _⟩, fun a => by simp only [PyData.depthAll]; have := h.d a.1; have := h'.d a.2; omega⟩
theorem qs_all {n : Nat} {d : α → PyData} (h : EqD n d) : EqDs n (fun xs : List α => xs.map d) := by
  refine ⟨fun a b => ?_, fun a => ?_, fun a => ?_⟩
  · induction a generalizing b with
    | nil => cases b <;> simp [PyData.eqvAll]
    | cons x a ih =>
      cases b with
      | nil => simp [PyData.eqvAll]
      | cons y b =>
        simp only [List.map_cons, PyData.eqvAll, Bool.and_eq_true]
        rw [h.e, ih, List.cons.injEq]
  · induction a with
    | nil => rfl
    | cons x a ih => simp only [List.map_cons, PyData.canLayAll0, Bool.and_eq_true]; exact ⟨h.l x, ih⟩
  · induction a with
    | nil => simp only [List.map_nil, PyData.depthAll]; omega
    | cons x a ih => simp only [List.map_cons, PyData.depthAll]; have := h.d x; omega
theorem q_T {n : Nat} {ds : α → List PyData} (h : EqDs n ds) : EqD (n + 1) (fun a => PyData.tuple (ds a)) := ⟨fun a b => by simp only [PyData.eqv]; exact h.e a b, fun a => by simp only [PyData.canLay0]; exact h.l a, fun a => by simp only [PyData.depth]; have := h.d a; omega⟩
theorem q_L {n : Nat} {ds : α → List PyData} (h : EqDs n ds) : EqD (n + 1) (fun a => PyData.list (ds a)) := ⟨fun a b => by simp only [PyData.eqv]; exact h.e a b, fun a => by simp only [PyData.canLay0]; exact h.l a, fun a => by simp only [PyData.depth]; have := h.d a; omega⟩
theorem EqD.sh {n : Nat} {d : α → PyData} (h : EqD n d) (hn : n ≤ 64) (a : α) : ShD (d a) := by
  unfold ShD SeqAt.shaped
  rw [h.l a, decide_eq_true (Nat.le_trans (h.d a) hn)]; rfl
theorem EqD.dec [DecidableEq α] {n : Nat} {d : α → PyData} (h : EqD n d) (a b : α) : PyData.eqv (d a) (d b) = decide (a = b) := by
  by_cases q : a = b
  · rw [decide_eq_true q]; exact (h.e a b).mpr q
  · rw [decide_eq_false q]
    cases e : PyData.eqv (d a) (d b) with
    | false => rfl
    | true => exact absurd ((h.e a b).mp e) q
/-- data known as a value -/
def EvQ (K : PySem.W.Frag) (d : α → PyData) (p : Pt τ) (te : TE) (σ : St) (S H : Hp) (m : (α → μ β) → μ β) : Prop :=
  ∀ S1 H1 s, Gm p.M S H S1 H1 → PotAt p s S1 H1 → ∀ (k : α → μ β) z, Mir.run (m k) s = some z → ∀ Q : VK,
    (∀ a v S2 H2 s2, Gm p.M S1 H1 S2 H2 → PotAt p s2 S2 H2 → (∀ S3 H3, Gm p.M S2 H2 S3 H3 → Dp K H3 v (d a)) → Mir.run (k a) s2 = some z → Q v H2) → te σ H1 Q
theorem Ev.Q {R : Rp α} [Mo R] {d : α → PyData} {m : (α → μ β) → μ β} (h : Ev p te σ S H m R) (hd : isD K R d) : EvQ K d p te σ S H m := fun S1 H1 s g ps k z hm Q q =>
  h S1 H1 s g ps _ z hm _ fun a v S2 H2 s2 g2 p2 r hm2 => q a v S2 H2 s2 g2 p2 (fun S3 H3 g3 => hd a v S3 H3 (Mo.mo g3.s r) g3.i) hm2
theorem EvR.Q {A : Rq α} [Mo A] {d : α → List PyData} {m : (α → μ β) → μ β} (h : EvR p te σ S H m A) (hd : isDs K A d) : EvQ K (fun a => .list (d a)) p te σ S H m := fun S1 H1 s g ps k z hm Q q =>
  h S1 H1 s g ps _ z hm _ fun a x vs S2 H2 s2 g2 p2 e m2 r hm2 => q a (.ref x) S2 H2 s2 g2 p2 (fun S3 H3 g3 => .lst (.of (g3.h _ _ m2 e)) (hd a vs S3 H3 (Mo.mo g3.s r) g3.i)) hm2
theorem e_eqQ [DecidableEq α] {n : Nat} {d : α → PyData} {m m' : (α → μ β) → μ β} (hd : EqD n d) (hn : n ≤ 64) (h : EvQ K d p ta σ S H m) (h' : EvQ K d p tb σ S H m') : Ev p (tOp (rEqD K) ta tb) σ S H (fun k => m fun a => m' fun b => k (decide (a = b))) rB := fun S1 H1 s g ps k z hm Q q =>
  h S1 H1 s g ps _ z hm _ fun a v S2 H2 s2 g2 p2 r hm2 => h' S2 H2 s2 (g.tr g2) p2 _ z hm2 _ fun b u S3 H3 s3 g3 p3 r3 hm3 =>
    ⟨d a, d b, r _ _ g3, r3 _ _ (Gm.rf g3.i), hd.sh hn a, hd.sh hn b, q _ _ S3 H3 s3 (g2.tr g3) p3 (by rw [hd.dec]; rfl) hm3⟩
theorem e_neQ [DecidableEq α] {n : Nat} {d : α → PyData} {m m' : (α → μ β) → μ β} (hd : EqD n d) (hn : n ≤ 64) (h : EvQ K d p ta σ S H m) (h' : EvQ K d p tb σ S H m') : Ev p (tOp (rNeD K) ta tb) σ S H (fun k => m fun a => m' fun b => k (!decide (a = b))) rB := fun S1 H1 s g ps k z hm Q q =>
  h S1 H1 s g ps _ z hm _ fun a v S2 H2 s2 g2 p2 r hm2 => h' S2 H2 s2 (g.tr g2) p2 _ z hm2 _ fun b u S3 H3 s3 g3 p3 r3 hm3 =>
    ⟨d a, d b, r _ _ g3, r3 _ _ (Gm.rf g3.i), hd.sh hn a, hd.sh hn b, q _ _ S3 H3 s3 (g2.tr g3) p3 (by rw [hd.dec]; rfl) hm3⟩
/-! ### sorted -/
def ins1 (x : Int) : List Int → List Int
  | [] => [x]
  | y :: r => if x ≤ y then x :: y :: r else y :: ins1 x r
def srt : List Int → List Int
  | [] => []
  | x :: r => ins1 x (srt r)
theorem ins1_perm (x : Int) : ∀ l, (ins1 x l).Perm (x :: l)
  | [] => .refl _
  | y :: r => by
    unfold ins1
    split
    · exact .refl _
    · exact ((ins1_perm x r).cons y).trans (.swap x y r)
theorem srt_perm : ∀ l, (srt l).Perm l
  | [] => .refl _
  | x :: r => (ins1_perm x (srt r)).trans ((srt_perm r).cons x)
theorem ins1_sorted (x : Int) : ∀ l, List.Pairwise (· ≤ ·) l → List.Pairwise (· ≤ ·) (ins1 x l)
  | [], _ => by simp [ins1]
  | y :: r, h => by
    unfold ins1
    obtain ⟨h1, h2⟩ := List.pairwise_cons.mp h
    split
    · rename_i hx
      refine List.pairwise_cons.mpr ⟨fun a ha => ?_, h⟩
      rcases List.mem_cons.mp ha with e | ha
      · omega
      · have := h1 a ha; omega
    · rename_i hx
      refine List.pairwise_cons.mpr ⟨fun a ha => ?_, ins1_sorted x r h2⟩
      rcases List.mem_cons.mp ((ins1_perm x r).mem_iff.mp ha) with e | ha
      · omega
      · exact h1 a ha
theorem srt_sorted : ∀ l, List.Pairwise (· ≤ ·) (srt l)
  | [] => .nil
  | x :: r => ins1_sorted x _ (srt_sorted r)
theorem sorted_one {a b : List Int} (h : a.Perm b) (ha : List.Pairwise (· ≤ ·) a) (hb : List.Pairwise (· ≤ ·) b) : a = b :=
  h.eq_of_pairwise (fun x y _ _ h1 h2 => Int.le_antisymm h1 h2) ha hb
theorem l_srt {m : (List Int → μ β) → μ β} (h : EvR p te σ S H m (aAll rI)) : EvL p (tCB (rSortedI K) (tCons te tNil)) σ S H (fun k => m fun xs => k (srt xs)) (aAll rI) := fun S1 H1 s g ps k z hm Q q =>
  h S1 H1 s g ps _ z hm _ fun xs x vs S2 H2 s2 g2 p2 e2 m2 r2 hm2 => ⟨x, xs, rfl, .of (by rw [e2, All.ints r2]), fun ns y h1 h2 hy => by
    have e : ns = srt xs := sorted_one (h1.trans (srt_perm xs).symm) h2 (srt_sorted xs)
    subst e
    exact q (srt xs) y _ S2 _ s2 (g2.tr (Gm.own g2.i hy)) (p2.go (Gm.own g2.i hy)) (back_none g2 hy) upd_same (g2.i.no hy) (new_nM p2 hy) (All.ofInts _) hm2⟩
/-- a list of ones own goes over to another name, and stays as it is from here on -/
theorem q_mv {i n j : Nat} {q : Addr} {vs : List V} {xs : List α} {R : Rp α} [Mo R] {L : List (Addr × HO)} {k : List α → μ β} (σ' : St) (hσ : σ.set n (some (.ref q)) = σ') (w : Wd p S0 H0 S H L) (ps : PotAt p s S H) (hj : L[j]? = some (q, .lst vs)) (e : σ[i]? = some (some (.ref q))) (ha : All R S xs vs)
    (hm : Mir.run (bnd xs k) s = some z) (nx : ∀ S1, Wd p S0 H0 S1 H (L.eraseIdx j) → PotAt p s S1 H → Ex S S1 → rL (aAll R) xs (.ref q) S1 → Mir.run (k xs) s = some z → tz D σ' H) : tSeq (tAsg (tVar i) (gName n)) tz D σ H :=
  ⟨.ref q, e, by
    have h := nx (upd S q (.lst vs)) (w.frz hj) (ps.frz (w.nmAt hj)) (ex_frz (w.at hj).2.1) ⟨q, vs, rfl, upd_same, ha.mo (ex_frz (w.at hj).2.1)⟩ hm
    rw [← hσ] at h
    exact h⟩
/-! ### a tuple of one kind taken apart -/
def two? : List α → Option (α × α)
  | [a, b] => some (a, b)
  | _ => none
theorem two_all {R : Rp α} {xs : List α} {vs : List V} {ab : α × α} (r : All R S xs vs) (e : two? xs = some ab) : aCons R (aOne R) ab vs S := by
  cases r with
  | nil => cases e
  | cons ra t =>
    cases t with
    | nil => cases e
    | cons rb t =>
      cases t with
      | nil =>
        cases e
        exact ⟨_, _, rfl, ra, _, rfl, rb⟩
      | cons _ _ => cases e
theorem e_two {R : Rp α} {m : (List α → μ β) → μ β} (h : Ev p te σ S H m (rT K (aAll R))) : Ev p te σ S H (fun k => m fun xs => Mir.lft (two? xs) >>= k) (rT K (aCons R (aOne R))) := fun S1 H1 s g ps k z hm Q q =>
  h S1 H1 s g ps _ z hm _ fun xs v S2 H2 s2 g2 p2 r hm2 => by
    obtain ⟨ab, e, hm3⟩ := run_of_lft hm2
    obtain ⟨x, vs, e2, h2, r2⟩ := r
    exact q ab v S2 H2 s2 g2 p2 ⟨x, vs, e2, h2, two_all r2 e⟩ hm3
end
section
variable {X : Cx}
theorem k_srt (K : PySem.W.Frag) (h : X.K = K := by rfl) : CallR X (.builtin "sorted") (rSortedI K) := h ▸ cr_sortedI
end
end Wk
set_option Elab.async false
set_option maxRecDepth 100000
set_option maxHeartbeats 4000000
set_option linter.all false
/-! W10: enumerate of tuples, zip of lists and tuples -/
namespace Wk
open PySem L2
open PyProof.Rows hiding St
set_option maxHeartbeats 1000000 in
theorem meets_enum1 {v : Value} {o : Obj} {H : Heap → Prop} (B : Begins v o H) :
    Meets (Builtin.«enumerate.__new__» ⟨[.type "enumerate", v], []⟩) (fun _ R s => H s.heap ∧
      R (.ok (.ret (.ref (s.heap.push o).objs.size))) { s with heap := (s.heap.push o).push { cls := .type "enumerate", data := .fields #[.none, .bool false, .ref s.heap.objs.size, rawInt 0, .none, .none] } }) :=
  .of_wp fun prog w A R s h => by
    obtain ⟨hp, g, d, tk, os⟩ := s; obtain ⟨h1, h⟩ := h
    have hsub := sub_enumerate
    have q1 : ∀ {A' : Around} {E : Value → Shared → Prop} {Q : Value → Shared → Prop}, Q (.ref hp.objs.size) ⟨hp.push o, g, d, tk, os⟩ → wpAny (model prog w) A' (pyIter v) Q E ⟨hp, g, d, tk, os⟩ :=
      fun q => B.iter prog w _ _ ⟨hp, g, d, tk, os⟩ _ h1 q
    wp_walk using q1
    refine wpAny_stack_any fun st => wpAny_pure ?_
    split
    · rename_i c _ _ _ _ _
      cases (c == Value.type "enumerate")
      · wp_walk using q1
        exact ⟨_, rfl, h⟩
      · wp_walk using q1
        exact ⟨_, rfl, h⟩
    · wp_walk using q1
      exact ⟨_, rfl, h⟩
section
variable {prog : Program} {w : World} {A : Around} {E : Value → Shared → Prop} {s : Shared}
theorem enum1_begins {v : Value} {o : Obj} {H : Heap → Prop} {Q : Value → Shared → Prop} (B : Begins v o H) (h1 : H s.heap)
    (h : ∀ h', IsEnum h' (s.heap.objs.size + 1) s.heap.objs.size 0 .none → h'.get? s.heap.objs.size = some o → h'.objs.size = s.heap.objs.size + 2 →
      (∀ b o, s.heap.get? b = some o → h'.get? b = some o) → Q (.ref (s.heap.objs.size + 1)) { s with heap := h' }) :
    wpAny (model prog w) A (call (.type "enumerate") [v]) Q E s := by
  refine callType_new F.called_enumerate (by decide) (F.typeCall_enumerate_1 _) (F.newCall_enumerate_1 _) (fun obj => F.args_object_init_2 obj _) F.entry_enumerate_new
    (meets_enum1 B) ⟨h1, ?_⟩
  have hz : (s.heap.push o).objs.size = s.heap.objs.size + 1 := Heap.size_push ..
  show _ ∧ _
  rw [hz]
  have he : IsEnum ((s.heap.push o).push { cls := .type "enumerate", data := .fields #[.none, .bool false, .ref s.heap.objs.size, rawInt 0, .none, .none] }) (s.heap.objs.size + 1) s.heap.objs.size 0 .none := by
    have := Heap.get?_push_size (s.heap.push o) (o := { cls := .type "enumerate", data := .fields #[.none, .bool false, .ref s.heap.objs.size, rawInt 0, .none, .none] }) rfl
    rw [hz] at this; exact this
  refine ⟨⟨_, he, rfl⟩, h _ he (Heap.get?_push_of_some _ (Heap.get?_push_size _ B.free)) (by rw [Heap.size_push, hz]) fun b o x => Heap.get?_push_of_some _ (Heap.get?_push_of_some _ x)⟩
end
def IteT (K : PySem.W.Frag) (a : Addr) : It :=
  ⟨fun i H => ∃ (xs : List V) (x : V), SqT K H a xs ∧ xs[i]? = some x, fun i H v H' => ∃ T x, v = .ref T ∧ H T = none ∧ H' = upd H T (.tup [.int (i : Nat), x]) ∧ ∀ xs, SqT K H a xs → xs[i]? = some x, fun i H => ∃ xs : List V, SqT K H a xs ∧ xs.length ≤ i⟩
theorem turn_enumT {P : Program} {w : World} {K : PySem.W.Frag} {elts : List Expr} {kk : Nat} {tpos : Pos} (a e it : Addr) :
    Turn P w K (.Tuple elts kk tpos) (IteT K a) [e, it] e (fun i h => (∃ old, IsEnum h e it ((i : Nat) : Int) old) ∧ h.IsTupleIter it a i ∧ e ≠ it) where
  mem := by simp
  obj := fun i h st b hb => by
    obtain ⟨⟨old, he⟩, ⟨o, ho, hc, hd⟩, _⟩ := st
    have e' : b = e ∨ b = it := by simpa using hb
    rcases e' with z | z
    · rw [z]; exact ⟨_, he, fun v q => nomatch q⟩
    · rw [z]; exact ⟨o, ho, fun v q => by rw [hd] at q; cases q⟩
  keep := fun i h h' st k => let ⟨⟨old, he⟩, hi, hne⟩ := st; ⟨⟨old, k e (by simp) _ he⟩, hi.at fun o q => k it (by simp) o q, hne⟩
  item := by
    intro X hP hw hK hc i pins s σ H E I hf st hg
    subst hP hw hK
    obtain ⟨⟨old, he⟩, hit, hne⟩ := st
    obtain ⟨xs, x, hq, hx⟩ := hg
    obtain ⟨its, rv, p, hz⟩ := I.tuple hq
    obtain ⟨u, hu, ru⟩ := rv.get hx
    have hel : e < s.heap.objs.size := Heap.lt_size he
    have hil : it < s.heap.objs.size := by obtain ⟨_, q, _⟩ := hit; exact Heap.lt_size q
    have hp : s.heap.IsTuple a its.toArray := p
    have hea : e ≠ a := by
      rintro rfl
      obtain ⟨o, ho, hc', _⟩ := hp
      have he' := he
      unfold IsEnum at he'
      rw [ho] at he'
      cases he'
      exact absurd (Value.type.inj hc') (by decide)
    have hia : a ≠ it := by
      rintro rfl
      obtain ⟨o, ho, hc', _⟩ := hp
      obtain ⟨o2, ho2, hc2, _⟩ := hit
      rw [ho] at ho2
      cases ho2
      rw [hc'] at hc2
      exact absurd (Value.type.inj hc2) (by decide)
    have hil2 : i < its.toArray.size := by
      have := (List.getElem?_eq_some_iff.mp hu).1
      simpa using this
    refine wpAny_pyNext_enum_itemC (Draws.tuple (A := X.A.in1) (show X.A.in1.handled = none from I.ok.hd hc) it a hia its.toArray) he ⟨hit, hp⟩ hil2 hne (by simp [hne, hea]) fun x' h' tk hP ho hst' hT hsz hk => ?_
    have hxe : x' = u := by
      have hu' : its.toArray[i]? = some u := by simpa using hu
      rw [hu'] at hP
      exact (Option.some.inj hP).symm
    subst hxe
    refine ⟨_, rfl, wpAny_letOwnedTupleGo_enum (s := { s with heap := h', toks := tk + 1 }) ho fun h'' he' sb => ?_⟩
    have hT2 : h''.get? s.heap.objs.size = some { cls := .type "tuple", data := .seq #[.int i tk, x'] } := (sb.2 _ (Nat.ne_of_gt hel)).trans hT
    have new : ObjOk X.prog X.w (upd H s.heap.objs.size (.tup [.int (i : Nat), x])) h'' s.heap.objs.size (.tup [.int (i : Nat), x]) :=
      ⟨by show 2 ≤ sizeLine; decide, [.int i tk, x'], .cons ⟨_, rfl⟩ (.cons ru .nil), ⟨_, hT2, rfl, _, rfl⟩⟩
    have I1 : Inv X pins σ (upd H s.heap.objs.size (.tup [.int (i : Nat), x])) { s with heap := h'', toks := tk + 1 } :=
      I.turnedNew (ch := [e, it]) (fun b ob hb q => (sb.2 b (fun z => hb (by simp [z]))).trans (hk b ob (fun z => hb (by simp [z])) (fun z => hb (by simp [z])) q)) hf (Nat.le_refl _) new
    refine ⟨.ref s.heap.objs.size, _, I1, rfl, ⟨_, x, rfl, I.hok.fresh (Nat.le_refl _), rfl, fun ys hy => by rw [I.tuple_inj hy hq]; exact hx⟩, ⟨⟨x', ?_⟩, hst'.1.at fun o q => (sb.2 it (Ne.symm hne)).trans q, hne⟩, fun b hb => ?_⟩
    · have e1 : ((i + 1 : Nat) : Int) = (i : Int) + 1 := by omega
      rw [e1]; exact he'
    · have hb' : b < s.heap.objs.size := by
        have e' : b = e ∨ b = it := by simpa using hb
        rcases e' with z | z
        · rw [z]; exact hel
        · rw [z]; exact hil
      rw [upd_ne (Nat.ne_of_lt hb')]
      exact (hf b hb).1
  done := by
    intro X hP hw hK hc i pins s σ H E I hf st hg
    subst hP hw hK
    obtain ⟨⟨old, he⟩, hit, hne⟩ := st
    obtain ⟨xs, hq, hx⟩ := hg
    obtain ⟨its, rv, p, hz⟩ := I.tuple hq
    obtain ⟨f0, f1, f2, f3, f4, f5⟩ := hf it (by simp)
    have hl := rv.length
    have hp : s.heap.IsTuple a its.toArray := p
    have hia : a ≠ it := by
      rintro rfl
      obtain ⟨o, ho, hc', _⟩ := hp
      obtain ⟨o2, ho2, hc2, _⟩ := hit
      rw [ho] at ho2
      cases ho2
      rw [hc'] at hc2
      exact absurd (Value.type.inj hc2) (by decide)
    have D : Draws X.prog X.w X.A.in1 it [it, a] i (fun _ _ => True) (fun j h => j = i ∧ h.IsTupleIter it a i ∧ h.IsTuple a its.toArray) :=
      { live := fun _ _ st => let ⟨o, ho, _⟩ := st.2.1; ⟨o, ho⟩
        frame := fun _ _ _ st hk => ⟨st.1, st.2.1.at fun o e => hk it (by simp) o e, st.2.2.at fun o e => hk a (by simp) o e⟩
        item := fun j s Q E hi st hQ => absurd st.1 (Nat.ne_of_lt hi)
        done := fun s Q E st hE => wpAny_nextOf_tuple_end (show X.A.in1.handled = none from I.ok.hd hc) st.2.1 st.2.2 (by simp; omega) hE }
    exact wpAny_pyNext_enum_endD D he ⟨rfl, hit, hp⟩ fun h' eb => ⟨rfl, I.turned (t' := s.toks) (fun b o hb q => eb b o hb q) f0 f1 f3 f4 f5⟩
  self := fun A i s Q E st h => let ⟨⟨_, he⟩, _⟩ := st; wpAny_pyIter_enum he h
def iEnumT (K : PySem.W.Frag) (ta : TA) : TI := fun σ H R => ta σ H fun vs H1 => ∃ a xs, vs = [.ref a] ∧ SqT K H1 a xs ∧ R (IteT K a) H1
theorem pi_enumT {X : Cx} {e : Expr} {ta : TA} {p pos tpos : Pos} {elts : List Expr} {kk : Nat} (hg : Gl X "enumerate") (hm : X.mg "enumerate" = none) (ha : PA X [e] ta) (hs : starEach [e] X.env = [(false, eval e X.env)] := by rfl) :
    PI X (.Tuple elts kk tpos) (.Call (.Name "enumerate" p) [e] [] pos) (iEnumT X.K ta) := by
  refine ⟨fun pins s σ H R I h => ?_⟩
  refine Call_ (ld_blt I hg hm boot_enumerate (PyProof.Rows.callWith_type1 (thn (ha.run pos pins s σ H _ I h) fun us s1 ⟨vs, H1, I1, r1, q1⟩ => ?_) hs rfl))
  obtain ⟨a, xs, ex, hq, q⟩ := q1
  subst ex
  cases r1 with
  | cons r rr =>
    cases rr
    cases r
    obtain ⟨its, rv, p', hz⟩ := I1.tuple hq
    have hp : s1.heap.IsTuple a its.toArray := p'
    refine enum1_begins (begins_tuple a its.toArray) hp fun h' he hit hsz hk => wpAny_pyIter_enum he ?_
    have I2 : Inv X pins σ H1 { s1 with heap := h' } := I1.kept (t' := s1.toks) hk
    refine ⟨s1.heap.objs.size + 1, [s1.heap.objs.size + 1, s1.heap.objs.size], _, _, H1, rfl, I2, turn_enumT a (s1.heap.objs.size + 1) s1.heap.objs.size, ⟨⟨.none, he⟩, ⟨_, hit, rfl, rfl⟩, Nat.succ_ne_self _⟩, fun b hb => ?_, q⟩
    have e' : b = s1.heap.objs.size + 1 ∨ b = s1.heap.objs.size := by simpa using hb
    have hle : s1.heap.objs.size ≤ b := by
      rcases e' with z | z
      · rw [z]; exact Nat.le_add_right _ _
      · rw [z]; exact Nat.le_refl _
    exact I1.fpOk hle (I1.hok.fresh hle)
end Wk
set_option Elab.async false
set_option maxRecDepth 100000
set_option maxHeartbeats 4000000
set_option linter.all false
/-! W11: chains, isinstance, tuples put together, places of items, values of two kinds -/
namespace Wk
open PySem L2
open PyProof.Rows hiding St
section
variable {μ : Type → Type} {τ : Type} [Mir μ τ] {α β γ δ ρ : Type} {p : Pt τ} {σ : St} {S H S0 H0 : Hp} {te ta tb tc : TE} {tt : TT} {K : PySem.W.Frag}
theorem i_enumT {m : (List α → μ β) → μ β} {R : Rp α} [Mo R] (h : Ev p te σ S H m (rT K (aAll R))) : EvI p (iEnumT K (tCons te tNil)) σ S H (fun k => m fun xs => k (enum xs)) (rT K (aCons rI (aOne R))) [] := fun S1 H1 s g ps k z hm Q q =>
  h S1 H1 s g ps _ z hm _ fun xs v S2 H2 s2 g2 p2 ⟨x, vs, e, h1, h2⟩ hm2 => ⟨x, vs, by rw [e], sqT_ex g2.i h1, q _ _ S2 H2 s2 g2 p2 (fun S3 H3 e1 e2 _ => by
    have a2 : All R S2 xs vs := h2
    have hq : SqT K H3 x vs := sqT_ex (e1.tr e2) h1
    have ln : (enum xs).length = vs.length := by unfold enum; rw [List.length_map, List.length_zipIdx, a2.len]
    refine ⟨fun i hi => ⟨vs, vs[i]'(by rw [← ln]; exact hi), hq, List.getElem?_eq_getElem _⟩, ⟨vs, hq, by rw [ln]; exact Nat.le_refl _⟩, fun i y v H4 hx yl => ?_⟩
    obtain ⟨tp, u, e3, n, e4, yl⟩ := yl
    subst e3
    subst e4
    have hu := yl vs hq
    have hx' : xs.zipIdx[i]? = some (y.2, i) ∧ y.1 = (i : Int) := by
      unfold enum at hx
      rw [List.getElem?_map] at hx
      cases q2 : xs.zipIdx[i]? with
      | none => rw [q2] at hx; cases hx
      | some c =>
        rw [q2] at hx
        have e5 := Option.some.inj hx
        rw [List.getElem?_zipIdx] at q2
        cases q3 : xs[i]? with
        | none => rw [q3] at q2; cases q2
        | some d =>
          rw [q3] at q2
          have e6 := Option.some.inj q2
          rw [← e5, ← e6]
          simp
    rw [List.getElem?_zipIdx] at hx'
    obtain ⟨hx1, hx2⟩ := hx'
    have hx3 : xs[i]? = some y.2 := by
      cases q3 : xs[i]? with
      | none => rw [q3] at hx1; cases hx1
      | some d => rw [q3] at hx1; have := Option.some.inj hx1; simp at this; rw [this]
    obtain ⟨u', hu', ru⟩ := a2.get hx3
    rw [hu] at hu'
    cases hu'
    refine ⟨upd S3 tp (.tup [.int (i : Nat), u]), Gm.new e2 n, tp, _, rfl, .of upd_same, _, _, rfl, ?_, _, rfl, Mo.mo (e1.tr (Gm.new (M := []) e2 n).s) ru⟩
    show V.int _ = V.int _
    rw [hx2]) hm2⟩
theorem zip_get {xs : List α} {ys : List γ} {i : Nat} {y : α × γ} (h : (xs.zip ys)[i]? = some y) : xs[i]? = some y.1 ∧ ys[i]? = some y.2 := by
  rw [List.getElem?_zip_eq_some] at h
  exact h
/-- zip of two lists, of two tuples -/
theorem i_zipL {m : (List α → μ β) → μ β} {m' : (List γ → μ β) → μ β} {R : Rp α} {R' : Rp γ} [Mo R] [Mo R'] (h : Ev p ta σ S H m (rL (aAll R))) (h' : Ev p tb σ S H m' (rL (aAll R'))) :
    EvI p (RZ.iZipA K (tCons ta (tCons tb tNil))) σ S H (fun k => m fun xs => m' fun ys => k (xs.zip ys)) (rT K (aCons R (aOne R'))) [] := fun S1 H1 s g ps k z hm Q q =>
  h S1 H1 s g ps _ z hm _ fun xs v S2 H2 s2 g2 p2 ⟨x, vs, e, h1, h2⟩ hm2 => h' S2 H2 s2 (g.tr g2) p2 _ z hm2 _ fun ys w S3 H3 s3 g3 p3 ⟨y, ws, e', h1', h2'⟩ hm3 => by
    subst e e'
    refine ⟨x, y, vs, ws, rfl, .inl ⟨.of (g3.i _ _ (g3.s _ _ h1)), .of (g3.i _ _ h1'), q _ _ S3 H3 s3 (g2.tr g3) p3 (fun S4 H4 e1 e2 _ => ?_) hm3⟩⟩
    have a1 : All R S2 xs vs := h2
    have a2 : All R' S3 ys ws := h2'
    have q1 : SqL K H4 x vs := .of (e2 _ _ (e1 _ _ (g3.s _ _ h1)))
    have q2 : SqL K H4 y ws := .of (e2 _ _ (e1 _ _ h1'))
    have ln : (xs.zip ys).length = min vs.length ws.length := by rw [List.length_zip, a1.len, a2.len]
    refine ⟨fun i hi => ⟨vs, ws, vs[i]'(by omega), ws[i]'(by omega), q1, q2, List.getElem?_eq_getElem _, List.getElem?_eq_getElem _⟩, ⟨vs, ws, q1, q2, by rw [ln]; omega⟩, fun i u v H5 hx yl => ?_⟩
    obtain ⟨tp, b1, b2, e3, n, e4, y1, y2⟩ := yl
    subst e3 e4
    obtain ⟨c1, c2⟩ := zip_get hx
    obtain ⟨d1, hd1, rd1⟩ := a1.get c1
    obtain ⟨d2, hd2, rd2⟩ := a2.get c2
    rw [y1 vs q1] at hd1
    rw [y2 ws q2] at hd2
    cases hd1
    cases hd2
    have gn := Gm.new (M := []) (o := .tup [b1, b2]) e2 n
    exact ⟨upd S4 tp (.tup [b1, b2]), gn, tp, _, rfl, .of upd_same, _, _, rfl, Mo.mo ((g3.s.tr e1).tr gn.s) rd1, _, rfl, Mo.mo (e1.tr gn.s) rd2⟩
theorem i_zipT {m : (List α → μ β) → μ β} {m' : (List γ → μ β) → μ β} {R : Rp α} {R' : Rp γ} [Mo R] [Mo R'] (h : Ev p ta σ S H m (rT K (aAll R))) (h' : Ev p tb σ S H m' (rT K (aAll R'))) :
    EvI p (RZ.iZipA K (tCons ta (tCons tb tNil))) σ S H (fun k => m fun xs => m' fun ys => k (xs.zip ys)) (rT K (aCons R (aOne R'))) [] := fun S1 H1 s g ps k z hm Q q =>
  h S1 H1 s g ps _ z hm _ fun xs v S2 H2 s2 g2 p2 ⟨x, vs, e, h1, h2⟩ hm2 => h' S2 H2 s2 (g.tr g2) p2 _ z hm2 _ fun ys w S3 H3 s3 g3 p3 ⟨y, ws, e', h1', h2'⟩ hm3 => by
    subst e e'
    refine ⟨x, y, vs, ws, rfl, .inr ⟨sqT_ex (g3.s.tr g3.i) h1, sqT_ex g3.i h1', q _ _ S3 H3 s3 (g2.tr g3) p3 (fun S4 H4 e1 e2 _ => ?_) hm3⟩⟩
    have a1 : All R S2 xs vs := h2
    have a2 : All R' S3 ys ws := h2'
    have q1 : SqT K H4 x vs := sqT_ex ((g3.s.tr e1).tr e2) h1
    have q2 : SqT K H4 y ws := sqT_ex (e1.tr e2) h1'
    have ln : (xs.zip ys).length = min vs.length ws.length := by rw [List.length_zip, a1.len, a2.len]
    refine ⟨fun i hi => ⟨vs, ws, vs[i]'(by omega), ws[i]'(by omega), q1, q2, List.getElem?_eq_getElem _, List.getElem?_eq_getElem _⟩, ⟨vs, ws, q1, q2, by rw [ln]; omega⟩, fun i u v H5 hx yl => ?_⟩
    obtain ⟨tp, b1, b2, e3, n, e4, y1, y2⟩ := yl
    subst e3 e4
    obtain ⟨c1, c2⟩ := zip_get hx
    obtain ⟨d1, hd1, rd1⟩ := a1.get c1
    obtain ⟨d2, hd2, rd2⟩ := a2.get c2
    rw [y1 vs q1] at hd1
    rw [y2 ws q2] at hd2
    cases hd1
    cases hd2
    have gn := Gm.new (M := []) (o := .tup [b1, b2]) e2 n
    exact ⟨upd S4 tp (.tup [b1, b2]), gn, tp, _, rfl, .of upd_same, _, _, rfl, Mo.mo ((g3.s.tr e1).tr gn.s) rd1, _, rfl, Mo.mo (e1.tr gn.s) rd2⟩
/-! chains of two comparisons of ints -/
def CmpI (r : R2) (c : Int → Int → Bool) : Prop := ∀ i j H (Q : VK), Q (.bl (c i j)) H → r (.int i) (.int j) H Q
theorem ci_lt : CmpI (rI0 fun i j => .bl (decide (i < j))) fun i j => decide (i < j) := fun i j _ _ q => ⟨i, j, rfl, rfl, q⟩
theorem ci_le : CmpI (rI0 fun i j => .bl (decide (i ≤ j))) fun i j => decide (i ≤ j) := fun i j _ _ q => ⟨i, j, rfl, rfl, q⟩
theorem ci_gt : CmpI (rI0 fun i j => .bl (decide (j < i))) fun i j => decide (j < i) := fun i j _ _ q => ⟨i, j, rfl, rfl, q⟩
theorem ci_ge : CmpI (rI0 fun i j => .bl (decide (j ≤ i))) fun i j => decide (j ≤ i) := fun i j _ _ q => ⟨i, j, rfl, rfl, q⟩
theorem e_chain {r r' : R2} {c c' : Int → Int → Bool} {ma mb : (Int → μ β) → μ β} {mc : (Int → μ Bool) → μ Bool} (hr : CmpI r c) (hr' : CmpI r' c') (ha : Ev p ta σ S H ma rI) (hb : Ev p tb σ S H mb rI) (hc : Ev p tc σ S H mc rI) :
    Ev p (tChain r r' ta tb tc) σ S H (fun k => ma fun i => mb fun j => (if c i j = true then mc fun l => pure (c' j l) else pure false) >>= k) rB := fun S1 H1 s g ps k z hm Q q =>
  ha S1 H1 s g ps _ z hm _ fun i v S2 H2 s2 g2 p2 r2 hm2 => hb S2 H2 s2 (g.tr g2) p2 _ z hm2 _ fun j u S3 H3 s3 g3 p3 r3 hm3 => by
    cases (show v = .int i from r2)
    cases (show u = .int j from r3)
    obtain ⟨b, s4, e1, e2⟩ := run_of_bind hm3
    refine hr i j _ _ ⟨_, rfl, ?_⟩
    cases e : c i j with
    | true =>
      rw [if_pos rfl]
      rw [if_pos e] at e1
      refine hc S3 H3 s3 ((g.tr g2).tr g3) p3 _ (b, s4) e1 _ fun l w S4 H4 s5 g4 p4 r4 hm4 => ?_
      cases (show w = .int l from r4)
      cases run_of_pure hm4
      exact hr' j l _ _ (q _ _ S4 H4 _ ((g2.tr g3).tr g4) p4 rfl e2)
    | false =>
      rw [if_neg (by decide)]
      rw [if_neg (by rw [e]; decide)] at e1
      cases run_of_pure e1
      exact q _ _ S3 H3 _ (g2.tr g3) p3 rfl e2
theorem e_chainT {r r' : R2} {c c' : Int → Int → Bool} {l : Int} {ma mb : (Int → μ β) → μ β} (hr : CmpI r c) (hr' : CmpI r' c') (ha : Ev p ta σ S H ma rI) (hb : Ev p tb σ S H mb rI) (hc : Ev (μ := μ) (β := β) p tc σ S H (fun k => k l) rI) :
    Ev p (tChain r r' ta tb tc) σ S H (fun k => ma fun i => mb fun j => k (c i j && c' j l)) rB := fun S1 H1 s g ps k z hm Q q =>
  ha S1 H1 s g ps _ z hm _ fun i v S2 H2 s2 g2 p2 r2 hm2 => hb S2 H2 s2 (g.tr g2) p2 _ z hm2 _ fun j u S3 H3 s3 g3 p3 r3 hm3 => by
    cases (show v = .int i from r2)
    cases (show u = .int j from r3)
    refine hr i j _ _ ⟨_, rfl, ?_⟩
    cases e : c i j with
    | true =>
      rw [if_pos rfl]
      rw [e, Bool.true_and] at hm3
      refine hc S3 H3 s3 ((g.tr g2).tr g3) p3 (fun l => k (c' j l)) z hm3 _ fun l w S4 H4 s5 g4 p4 r4 hm4 => ?_
      cases (show w = .int l from r4)
      exact hr' j l _ _ (q _ _ S4 H4 _ ((g2.tr g3).tr g4) p4 rfl hm4)
    | false =>
      rw [if_neg (by decide)]
      rw [e, Bool.false_and] at hm3
      exact q _ _ S3 H3 _ (g2.tr g3) p3 rfl hm3
/-! isinstance -/
def TyRp (K : PySem.W.Frag) (R : Rp α) (T : String) : Prop := ∀ a v S H, Ex S H → R a v S → TyX K H v (.type T)
theorem ty_I : TyRp K rI "int" := fun a v _ _ _ h => by cases (show v = .int a from h); exact .base (.int _)
theorem ty_B : TyRp K rB "bool" := fun a v _ _ _ h => by cases (show v = .bl a from h); exact .base (.bl _)
theorem ty_S : TyRp K rS "str" := fun a v _ _ _ h => by cases (show v = .str a from h); exact .base (.str _)
theorem ty_N : TyRp K rN "NoneType" := fun a v _ _ _ h => by cases (show v = .non from h); exact .base .non
theorem ty_T {A : Rq α} : TyRp K (rT K A) "tuple" := fun a v S H e ⟨x, vs, e1, h1, _⟩ => by
  subst e1
  rcases sqT_ex e h1 with (h | ⟨o, h⟩) | ⟨o, its, n, h2, h3, _⟩
  · exact .base (.tup h)
  · exact .fTuple h
  · exact .kTuple h2 h3
theorem ty_L {A : Rq α} : TyRp K (rL A) "list" := fun a v S H e ⟨x, vs, e1, h1, _⟩ => by
  subst e1
  exact .base (.lst (e _ _ h1))
theorem c_isi {R : Rp α} {m : (α → μ β) → μ β} {T U : String} {b : Bool} (h : Ev p te σ S H m R) (ht : TyRp K R T) (hk : PySem.W.kitOne K (.type T) (.type U) = some b) :
    Ev p (tCB (rIsi K) (tCons te (tCons (tC (.ty U)) tNil))) σ S H (fun k => m fun _ => k b) rB := fun S1 H1 s g ps k z hm Q q =>
  h S1 H1 s g ps _ z hm _ fun a v S2 H2 s2 g2 p2 r hm2 => ⟨v, .ty U, .type T, .type U, b, rfl, .ty U, ht a v S2 H2 g2.i r, hk, q _ _ S2 H2 s2 g2 p2 rfl hm2⟩
/-! tuples -/
/-- a tuple of a known make as one of items -/
theorem Ev.tl2 {R : Rp α} {m : (α × α → μ β) → μ β} (h : Ev p te σ S H m (rT K (aCons R (aOne R)))) : Ev p te σ S H (fun k => m fun a => k [a.1, a.2]) (rT K (aAll R)) :=
  h.map (fun a => [a.1, a.2]) fun a v S ⟨x, vs, e, h1, v1, r, e1, h2, v2, e2, h3⟩ => ⟨x, vs, e, h1, by rw [e1, e2]; exact .cons h2 (.cons h3 .nil)⟩
theorem Ev.tl3 {R : Rp α} {m : (α × α × α → μ β) → μ β} (h : Ev p te σ S H m (rT K (aCons R (aCons R (aOne R))))) : Ev p te σ S H (fun k => m fun a => k [a.1, a.2.1, a.2.2]) (rT K (aAll R)) :=
  h.map (fun a => [a.1, a.2.1, a.2.2]) fun a v S ⟨x, vs, e, h1, v1, r, e1, h2, v2, r2, e2, h3, v3, e3, h4⟩ => ⟨x, vs, e, h1, by rw [e1, e2, e3]; exact .cons h2 (.cons h3 (.cons h4 .nil))⟩
theorem Ev.tl1 {R : Rp α} {m : (α → μ β) → μ β} (h : Ev p te σ S H m (rT K (aOne R))) : Ev p te σ S H (fun k => m fun a => k [a]) (rT K (aAll R)) :=
  h.map (fun a => [a]) fun a v S ⟨x, vs, e, h1, v1, e1, h2⟩ => ⟨x, vs, e, h1, by rw [e1]; exact .cons h2 .nil⟩
theorem Ev.tl0 {R : Rp α} {m : (Unit → μ β) → μ β} (h : Ev p te σ S H m (rT K aNil)) : Ev p te σ S H (fun k => m fun _ => k []) (rT K (aAll R)) :=
  h.map (fun _ => []) fun a v S ⟨x, vs, e, h1, h2⟩ => ⟨x, vs, e, h1, by rw [show vs = [] from h2]; exact .nil⟩
/-- how many items there are, just -/
def ArL (n : Nat) (A : Rq α) : Prop := ∀ a vs S, A a vs S → vs.length = n
theorem arL_nil : ArL 0 aNil := fun _ vs _ h => by rw [show vs = [] from h]; rfl
theorem arL_one {R : Rp α} : ArL 1 (aOne R) := fun _ vs _ ⟨v, e, _⟩ => by rw [e]; rfl
theorem arL_cons {n : Nat} {R : Rp α} {A : Rq γ} (h : ArL n A) : ArL (n + 1) (aCons R A) := fun _ vs _ ⟨v, r, e, _, h2⟩ => by
  rw [e]
  exact congrArg Nat.succ (h _ _ _ h2)
theorem c_lenN {n : Nat} {A : Rq α} {m : (α → μ β) → μ β} (h : Ev p te σ S H m (rT K A)) (hn : ArL n A) : Ev p (tCB (fun xs H Q => ∃ p ys, xs = [.ref p] ∧ (SqL K H p ys ∨ SqT K H p ys) ∧ Q (.int ys.length) H) (tCons te tNil)) σ S H (fun k => m fun _ => k (n : Int)) rI := fun S1 H1 s g ps k z hm Q q =>
  h S1 H1 s g ps _ z hm _ fun xs v S2 H2 s2 g2 p2 ⟨x, vs, e2, h2, r2⟩ hm2 => ⟨x, vs, by rw [e2], .inr (sqT_ex g2.i h2), q _ _ S2 H2 s2 g2 p2 (by show V.int _ = V.int _; rw [hn _ _ _ r2]) hm2⟩
/-- t + u -/
theorem e_catT {A : Rq α} {B : Rq γ} {C : Rq δ} [Mo A] [Mo C] {ma : (α → μ β) → μ β} {mb : (γ → μ β) → μ β} (f : α → γ → δ) (n : Nat) (ha : Ev p ta σ S H ma (rT K A)) (hb : Ev p tb σ S H mb (rT K B))
    (hf : ∀ a b vs ws S, A a vs S → B b ws S → C (f a b) (vs ++ ws) S ∧ vs.length + ws.length ≤ n) (hn : n ≤ sizeLine) :
    Ev p (tOp (rCatA K) ta tb) σ S H (fun k => ma fun a => mb fun b => k (f a b)) (rT K C) := fun S1 H1 s g ps k z hm Q q =>
  ha S1 H1 s g ps _ z hm _ fun a v S2 H2 s2 g2 p2 ⟨x, vs, e, h1, h2⟩ hm2 => hb S2 H2 s2 (g.tr g2) p2 _ z hm2 _ fun b w S3 H3 s3 g3 p3 ⟨y, ws, e', h1', h2'⟩ hm3 => by
    subst e e'
    obtain ⟨hc, hl⟩ := hf a b vs ws S3 (Mo.mo g3.s h2) h2'
    refine ⟨x, y, vs, ws, rfl, rfl, sqT_ex (g3.s.tr g3.i) h1, sqT_ex g3.i h1', Nat.le_trans hl hn, fun e => ?_, fun _ e => ?_, fun _ _ pp hp => ?_⟩
    · exact q _ _ S3 H3 s3 (g2.tr g3) p3 ⟨y, ws, rfl, h1', by rw [e, List.nil_append] at hc; exact hc⟩ hm3
    · exact q _ _ S3 H3 s3 (g2.tr g3) p3 ⟨x, vs, rfl, sqT_ex g3.s h1, by rw [e, List.append_nil] at hc; exact hc⟩ hm3
    · have g4 : Gm p.M S3 H3 (upd S3 pp (.tup (vs ++ ws))) (upd H3 pp (.tup (vs ++ ws))) := Gm.new g3.i hp
      exact q _ _ _ _ s3 ((g2.tr g3).tr g4) (p3.go (Gm.new g3.i hp)) ⟨pp, vs ++ ws, rfl, .of upd_same, Mo.mo g4.s hc⟩ hm3
theorem e_catTL {R : Rp α} [Mo R] {ma mb : (List α → μ β) → μ β} (ha : Ev p ta σ S H ma (rT K (aAll R))) (hb : Ev p tb σ S H mb (rT K (aAll R))) :
    Ev p (tOp (rCatA K) ta tb) σ S H (fun k => ma fun a => mb fun b => Mir.lft (grd (a.length + b.length ≤ 16000000)) >>= fun _ => k (a ++ b)) (rT K (aAll R)) := fun S1 H1 s g ps k z hm Q q =>
  ha S1 H1 s g ps _ z hm _ fun a v S2 H2 s2 g2 p2 ⟨x, vs, e, h1, h2⟩ hm2 => hb S2 H2 s2 (g.tr g2) p2 _ z hm2 _ fun b w S3 H3 s3 g3 p3 ⟨y, ws, e', h1', h2'⟩ hm3 => by
    subst e e'
    obtain ⟨_, eg, hm4⟩ := run_of_lft hm3
    have hg := grd_of eg
    have a1 : All R S2 a vs := h2
    have a2 : All R S3 b ws := h2'
    have hc : All R S3 (a ++ b) (vs ++ ws) := (a1.mo g3.s).app a2
    refine ⟨x, y, vs, ws, rfl, rfl, sqT_ex (g3.s.tr g3.i) h1, sqT_ex g3.i h1', by rw [← a1.len, ← a2.len, sizeLine_eq]; omega, fun e => ?_, fun _ e => ?_, fun _ _ pp hp => ?_⟩
    · exact q _ _ S3 H3 s3 (g2.tr g3) p3 ⟨y, ws, rfl, h1', by rw [e, List.nil_append] at hc; exact hc⟩ hm4
    · exact q _ _ S3 H3 s3 (g2.tr g3) p3 ⟨x, vs, rfl, sqT_ex g3.s h1, by rw [e, List.append_nil] at hc; exact hc⟩ hm4
    · have g4 : Gm p.M S3 H3 (upd S3 pp (.tup (vs ++ ws))) (upd H3 pp (.tup (vs ++ ws))) := Gm.new g3.i hp
      exact q _ _ _ _ s3 ((g2.tr g3).tr g4) (p3.go (Gm.new g3.i hp)) ⟨pp, vs ++ ws, rfl, .of upd_same, All.mo g4.s hc⟩ hm4
theorem cut_all {α : Type} {xs : List α} {lo hi : Option Int} (h : HT.sIx xs.length 0 lo = 0 ∧ HT.sIx xs.length xs.length hi = xs.length) : cut xs lo hi = xs := by
  unfold cut
  rw [h.1, h.2]
  simp
/-- a slice of a tuple -/
theorem e_cutT {R : Rp α} {m : (List α → μ β) → μ β} {ml mh : (Option Int → μ β) → μ β} {tl th : TO} [Mo R] (h : Ev p te σ S H m (rT K (aAll R))) (hl : EvO p tl σ S H ml) (hh : EvO p th σ S H mh) :
    Ev p (tSl (rSlA K) te tl th) σ S H (fun k => m fun xs => ml fun l => mh fun u => k (cut xs l u)) (rT K (aAll R)) := fun S1 H1 s g ps k z hm Q q =>
  h S1 H1 s g ps _ z hm _ fun xs v S2 H2 s2 g2 p2 ⟨x, vs, e, h1, h2⟩ hm2 => hl S2 H2 s2 (g.tr g2) p2 _ z hm2 _ fun lo S3 H3 s3 g3 p3 hm3 => hh S3 H3 s3 ((g.tr g2).tr g3) p3 _ z hm3 _ fun hi S4 H4 s4 g4 p4 hm4 => by
    subst e
    have a1 : All R S4 xs vs := All.mo (g3.s.tr g4.s) h2
    have hq : SqT K S4 x vs := sqT_ex (g3.s.tr g4.s) h1
    refine ⟨x, vs, rfl, sqT_ex g4.i hq, fun e => ?_, fun _ pp hp => ?_⟩
    · have e1 : cut xs lo hi = xs := cut_all (by rw [a1.len]; exact e)
      exact q _ _ S4 H4 s4 ((g2.tr g3).tr g4) p4 ⟨x, vs, rfl, hq, by rw [e1]; exact a1⟩ hm4
    · have g5 : Gm p.M S4 H4 (upd S4 pp (.tup (cutV vs lo hi))) (upd H4 pp (.tup (cutV vs lo hi))) := Gm.new g4.i hp
      exact q _ _ _ _ s4 (((g2.tr g3).tr g4).tr g5) (p4.go (Gm.new g4.i hp)) ⟨pp, _, rfl, .of upd_same, All.mo g5.s (a1.cut lo hi)⟩ hm4
end
end Wk
set_option Elab.async false
set_option maxRecDepth 100000
set_option maxHeartbeats 4000000
set_option linter.all false
/-! W12: texts among texts, values of two kinds, places, greatest of tuples -/
namespace Wk
open PySem L2
open PyProof.Rows hiding St
section
variable {prog : Program} {w : World} {A : Around} {E : Value → Shared → Prop} {s : Shared} {t : Addr} {xs : Array (Int × Tok)}
theorem max_intTuple {Q : Value → Shared → Prop} (hh : A.handled = none) (ht : s.heap.IsTuple t (intItems xs)) (hne : 0 < xs.size)
    (h : ∀ v h' tk, (intItems xs)[argBest (fun i j => decide (numAt xs i > numAt xs j)) (xs.size - 1)]? = some v → (∀ b o, s.heap.get? b = some o → h'.get? b = some o) → Q v { s with heap := h', toks := tk }) :
    wpAny (model prog w) A (call (.builtin "max") [.ref t]) Q E s := by
  have hlt : t < s.heap.objs.size := by obtain ⟨o, ho, _⟩ := ht; exact Heap.lt_size ho
  refine call_max_walk (wpAny_pyIter_tuple ht ?_)
  refine ⟨s.heap.objs.size, [s.heap.objs.size, t], [s.heap.objs.size], _, _, _, _, rfl, Walks.tuple (A := A.in1) hh s.heap.objs.size t (Nat.ne_of_lt hlt) (intItems xs), ⟨⟨_, Heap.get?_push_size _ rfl, rfl, rfl⟩, ht.push _⟩, ?_, by simpa [intItems] using hne, CmpOf.ints_gt (numAt xs) (fun _ _ => intItems_at), fun v h' tk hP hk => ?_⟩
  · intro b hb
    have e : b = s.heap.objs.size ∨ b = t := by simpa using hb
    show b < (s.heap.push _).objs.size
    rw [Heap.size_push]
    rcases e with e | e
    · rw [e]; exact Nat.lt_succ_self _
    · rw [e]; exact Nat.lt_succ_of_lt hlt
  · refine h v h' tk (by simpa [intItems] using hP) fun b o e => hk b o ?_ (Heap.get?_push_of_some _ e)
    intro hb
    have : b = s.heap.objs.size := by simpa using hb
    have h2 := Heap.lt_size e
    rw [this] at h2
    exact absurd h2 (Nat.lt_irrefl _)
end
def rMaxT (K : PySem.W.Frag) : List V → Hp → VK → Prop := fun vs H Q => ∃ (a : Addr) (ns : List Int), vs = [V.ref a] ∧ SqT K H a (ns.map V.int) ∧ 0 < ns.length ∧ ∀ m, m ∈ ns → (∀ y, y ∈ ns → y ≤ m) → Q (.int m) H
section
variable {X : Cx}
theorem cr_maxT (hc : X.calm = true) : CallR X (.builtin "max") (rMaxT X.K) := by
  intro pins s σ H vs us Q I r h
  obtain ⟨a, ns, rfl, hs, hne, q⟩ := h
  obtain ⟨its, rv, ht, _⟩ := I.tuple hs
  rw [Vals.ref1 r]
  have ht : s.heap.IsTuple a its.toArray := ht
  have hi : IntsAre its ns := rv.ints
  obtain ⟨xs, e⟩ := hi.allInts.items
  have hn : numsOf (intItems xs).toList = ns := by rw [← e]; exact hi.numsOf
  rw [nums_intItems] at hn
  subst hn
  rw [e] at ht
  have hsz : 0 < xs.size := by simpa using hne
  refine max_intTuple (I.ok.hd hc) ht hsz fun v h' tk hv hk => ?_
  obtain ⟨t, rfl⟩ := intItems_at hv
  obtain ⟨h1, h2⟩ := argBest_gt (numAt xs) (xs.size - 1)
  refine ⟨.int _, H, I.kept hk, ⟨_, rfl⟩, q _ ?_ fun a ha => ?_⟩
  · rw [numAt_eq]; exact PySem.getD_mem (by rw [List.length_map, Array.length_toList]; omega)
  · obtain ⟨j, hj, rfl⟩ := mem_getD ha
    rw [List.length_map, Array.length_toList] at hj
    rw [← numAt_eq]; exact h2 j (by omega)
theorem k_maxT (K : PySem.W.Frag) (hc : X.calm = true := by rfl) (h : X.K = K := by rfl) : CallR X (.builtin "max") (rMaxT K) := h ▸ cr_maxT hc
theorem k_isi (K : PySem.W.Frag) (h : X.K = K := by rfl) : CallR X (.builtin "isinstance") (rIsi K) := h ▸ call_isi
theorem k_catT (K : PySem.W.Frag) (h : X.K = K := by rfl) : OpR X (binaryOp .Add) (rCatA K) := h ▸ op_catA
theorem k_slt (K : PySem.W.Frag) (h : X.K = K := by rfl) : SlR X (rSlA K) := h ▸ sl_tupA
theorem k_idx {k : Nat} (K : PySem.W.Frag) (hu : Room k X.A) (h : X.K = K := by rfl) : MtR X "list.index" (rIndexD K) := h ▸ mt_indexD (by have := hu.un; omega)
theorem k_cnt (K : PySem.W.Frag) (h : X.K = K := by rfl) : MtR X "list.count" (rCntI K) := h ▸ mt_lcount
theorem k_pieT (K : PySem.W.Frag) {e : Expr} {ta : TA} {p pos tpos : Pos} {elts : List Expr} {kk : Nat} (hg : Gl X "enumerate") (hm : X.mg "enumerate" = none) (ha : PA X [e] ta) (hs : starEach [e] X.env = [(false, eval e X.env)] := by rfl) (h : X.K = K := by rfl) :
    PI X (.Tuple elts kk tpos) (.Call (.Name "enumerate" p) [e] [] pos) (iEnumT K ta) := h ▸ pi_enumT hg hm ha hs
theorem k_pizA (K : PySem.W.Frag) {e e2 : Expr} {ta : TA} {p pos tpos : Pos} {elts : List Expr} {kk : Nat} (hg : Gl X "zip") (hm : X.mg "zip" = none) (ha : PA X [e, e2] ta)
    (hs : starEach [e, e2] X.env = (false, eval e X.env) :: starEach [e2] X.env := by rfl) (hpl : (backTo pos (starEach [e2] X.env)).any (·.1) = false := by rfl) (h : X.K = K := by rfl) :
    PI X (.Tuple elts kk tpos) (.Call (.Name "zip" p) [e, e2] [] pos) (RZ.iZipA K ta) := h ▸ RZ.pi_zipA hg hm ha hs hpl
end
section
variable {P : Program} {w : World} {K : PySem.W.Frag} {mg : Str → Option Value} {base : Heap}
/-- a promise in two cases -/
theorem FnG.cases {CX : CXT} {k : Nat} {f : Addr} {fd : FuncData} {ps : List Str} {sp sp1 sp2 : Sp} (F1 : FnG P w K mg base CX k f fd ps sp1) (F2 : FnG P w K mg base CX k f fd ps sp2)
    (h : ∀ vs H Q E, sp vs H Q E → sp1 vs H Q E ∨ sp2 vs H Q E) : FnG P w K mg base CX k f fd ps sp :=
  ⟨fun vs H Q E q => (h vs H Q E q).elim (F1.len vs H Q E) (F2.len vs H Q E), fun A o s H a us vs Q E hr gd e0 hb rv q => (h vs H Q E q).elim (F1.run A o s H a us vs Q E hr gd e0 hb rv) (F2.run A o s H a us vs Q E hr gd e0 hb rv)⟩
end
section
variable {μ : Type → Type} {τ : Type} [Mir μ τ] {α β γ δ ρ : Type} {p : Pt τ} {σ : St} {S H S0 H0 : Hp} {te ta tb tc : TE} {tt : TT} {K : PySem.W.Frag}
theorem e_ixU {A : Rq α} {B : Rq γ} {R : Rp δ} {n : Int} {f : α → δ} {g : γ → δ} {mA : (α ⊕ γ → μ β) → μ β} (ha : Ev p ta σ S H mA (rU (rT K A) (rT K B))) (hb : tb = tC (.int n)) (hn : ∀ a vs S, A a vs S → ∃ v, L2.atI vs n = some v ∧ R (f a) v S)
    (hn' : ∀ a vs S, B a vs S → ∃ v, L2.atI vs n = some v ∧ R (g a) v S) : Ev p (tOp (rIxT K) ta tb) σ S H (fun k => mA fun a => k (Sum.elim f g a)) R := fun S1 H1 s gg ps k z hm Q q =>
  ha S1 H1 s gg ps _ z hm _ fun a v S2 H2 s2 g2 p2 r hm2 => by
    subst hb
    cases a with
    | inl a =>
      obtain ⟨x, vs, e2, h2, r2⟩ := r
      obtain ⟨u, e4, r4⟩ := hn a vs S2 r2
      exact ⟨x, vs, n, u, e2, rfl, sqT_ex g2.i h2, e4, q _ u S2 H2 s2 g2 p2 r4 hm2⟩
    | inr a =>
      obtain ⟨x, vs, e2, h2, r2⟩ := r
      obtain ⟨u, e4, r4⟩ := hn' a vs S2 r2
      exact ⟨x, vs, n, u, e2, rfl, sqT_ex g2.i h2, e4, q _ u S2 H2 s2 g2 p2 r4 hm2⟩
theorem All.strs {S : Hp} : ∀ {xs : List Str} {vs : List V}, All rS S xs vs → vs = xs.map V.str
  | _, _, .nil => rfl
  | _, _, .cons h t => by rw [t.strs, show _ = V.str _ from h]; rfl
theorem inV_strs (x : Str) (xs : List Str) : inV (.str x) (xs.map V.str) = xs.any fun y => decide (y = x) := by
  unfold inV
  rw [List.any_map]
  rfl
theorem flat_strs (xs : List Str) : (xs.map V.str).all flatV = true := by
  rw [List.all_map]
  simp [flatV]
theorem e_inS {neg : Bool} {mA : (Str → μ β) → μ β} {mB : (List Str → μ β) → μ β} (ha : Ev p ta σ S H mA rS) (hb : Ev p tb σ S H mB (rT K (aAll rS))) : Ev p (tOp (rIn K neg) ta tb) σ S H (fun k => mA fun x => mB fun xs => k (if neg = true then !(xs.any fun y => decide (y = x)) else xs.any fun y => decide (y = x))) rB := fun S1 H1 s g ps k z hm Q q =>
  ha S1 H1 s g ps _ z hm _ fun x v S2 H2 s2 g2 p2 r2 hm2 => hb S2 H2 s2 (g.tr g2) p2 _ z hm2 _ fun xs u S3 H3 s3 g3 p3 ⟨y, us, e3, h3, r3⟩ hm3 => by
    cases (show v = .str x from r2)
    have e4 := All.strs r3
    subst e4
    exact ⟨y, _, e3, .inr (sqT_ex g3.i h3), rfl, flat_strs xs, q _ _ S3 H3 s3 (g2.tr g3) p3 (by rw [inV_strs]; rfl) hm3⟩
/-! == of unlike makes -/
theorem q_N : EqD 0 (fun _ : Unit => PyData.none) := ⟨fun a b => by simp only [PyData.eqv], fun _ => rfl, fun _ => by simp only [PyData.depth]; exact Nat.le_refl _⟩
/-- a written slice of a tuple of known make -/
theorem e_cutC {A : Rq α} {C : Rq γ} [Mo A] [Mo C] {f : α → γ} {lo hi : Option Int} {m : (α → μ β) → μ β} {tl th : TO} (h : Ev p te σ S H m (rT K A)) (hl : EvO (μ := μ) (β := β) p tl σ S H (fun k => k lo)) (hh : EvO (μ := μ) (β := β) p th σ S H (fun k => k hi))
    (hf : ∀ a vs S, A a vs S → C (f a) (cutV vs lo hi) S) : Ev p (tSl (rSlA K) te tl th) σ S H (fun k => m fun a => k (f a)) (rT K C) := fun S1 H1 s g ps k z hm Q q =>
  h S1 H1 s g ps _ z hm _ fun a v S2 H2 s2 g2 p2 ⟨x, vs, e, h1, h2⟩ hm2 => hl S2 H2 s2 (g.tr g2) p2 (fun l => if l = lo then k (f a) else Mir.lft none) z (by show Mir.run (if lo = lo then k (f a) else Mir.lft none) s2 = some z; rw [if_pos rfl]; exact hm2) _ fun lo' S3 H3 s3 g3 p3 hm3 => by
    have el : lo' = lo := Classical.byContradiction fun c => by
      rw [if_neg c, Mir.run_lft] at hm3; cases hm3
    rw [if_pos el] at hm3
    refine hh S3 H3 s3 ((g.tr g2).tr g3) p3 (fun l => if l = hi then k (f a) else Mir.lft none) z (by show Mir.run (if hi = hi then k (f a) else Mir.lft none) s3 = some z; rw [if_pos rfl]; exact hm3) _ fun hi' S4 H4 s4 g4 p4 hm4 => ?_
    have eh : hi' = hi := Classical.byContradiction fun c => by
      rw [if_neg c, Mir.run_lft] at hm4; cases hm4
    rw [if_pos eh] at hm4
    subst el eh e
    have a1 : C (f a) (cutV vs lo' hi') S4 := hf a vs S4 (Mo.mo (g3.s.tr g4.s) h2)
    have hq : SqT K S4 x vs := sqT_ex (g3.s.tr g4.s) h1
    refine ⟨x, vs, rfl, sqT_ex g4.i hq, fun e => ?_, fun _ pp hp => ?_⟩
    · have e1 : cutV vs lo' hi' = vs := by
        unfold cutV
        rw [e.1, e.2]
        simp
      exact q _ _ S4 H4 s4 ((g2.tr g3).tr g4) p4 ⟨x, vs, rfl, hq, by rw [e1] at a1; exact a1⟩ hm4
    · have g5 : Gm p.M S4 H4 (upd S4 pp (.tup (cutV vs lo' hi'))) (upd H4 pp (.tup (cutV vs lo' hi'))) := Gm.new g4.i hp
      exact q _ _ _ _ s4 (((g2.tr g3).tr g4).tr g5) (p4.go (Gm.new g4.i hp)) ⟨pp, _, rfl, .of upd_same, Mo.mo g5.s a1⟩ hm4
theorem c_maxT {m : (List Int → μ β) → μ β} (h : Ev p te σ S H m (rT K (aAll rI))) : Ev p (tCB (rMaxT K) (tCons te tNil)) σ S H (fun k => m fun xs => Mir.lft xs.max? >>= k) rI := fun S1 H1 s g ps k z hm Q q =>
  h S1 H1 s g ps _ z hm _ fun xs v S2 H2 s2 g2 p2 ⟨x, vs, e2, h2, r2⟩ hm2 => by
    obtain ⟨a, e, hm3⟩ := run_of_lft hm2
    subst e2
    refine ⟨x, xs, rfl, by rw [← All.ints r2]; exact sqT_ex g2.i h2, ?_, fun n h1 h2 => q a _ S2 H2 s2 g2 p2 (by rw [max_one e h1 h2]; rfl) hm3⟩
    cases xs with
    | nil => cases e
    | cons _ _ => simp
/-! places, counts -/
theorem idx_get {xs : List Int} {x : Int} {j : Nat} (h : xs.idxOf? x = some j) : xs[j]? = some x ∧ ∀ m y, m < j → xs[m]? = some y → y ≠ x := by
  obtain ⟨h1, h2, h3⟩ := List.idxOf?_eq_some_iff.mp h
  refine ⟨by rw [List.getElem?_eq_getElem h1, h2], fun m y hm hy e => ?_⟩
  obtain ⟨h4, h5⟩ := List.getElem?_eq_some_iff.mp hy
  exact h3 m hm (by rw [h5, e])
theorem dp_ints {H1 : Hp} : ∀ {S1 : Hp} {xs : List Int} {vs : List V}, All rI S1 xs vs → DpAll K H1 vs (xs.map PyData.int)
  | _, _, _, .nil => .nil
  | _, _, _, .cons h t => by
    rw [show _ = V.int _ from h]
    exact .cons (.int _) (dp_ints t)
/-- xs.index(x), found -/
theorem c_idx {m : (List Int → μ β) → μ β} {m' : (Int → μ β) → μ β} (h : EvR p te σ S H m (aAll rI)) (h' : Ev p ta σ S H m' rI) : Ev p (tBM K "list" (rIndexD K) te (tCons ta tNil)) σ S H (fun k => m fun xs => m' fun x => Mir.lft (xs.idxOf? x) >>= fun j => k (j : Int)) rI := fun S1 H1 s g ps k z hm Q q =>
  h S1 H1 s g ps _ z hm _ fun xs a vs S2 H2 s2 g2 p2 e2 m2 r2 hm2 => ⟨.inl ⟨rfl, _, .of e2⟩, h' S2 H2 s2 (g.tr g2) p2 _ z hm2 _ fun x v S3 H3 s3 g3 p3 r3 hm3 => by
    cases (show v = .int x from r3)
    obtain ⟨j, e, hm4⟩ := run_of_lft hm3
    obtain ⟨h1, h2⟩ := idx_get e
    have e3 := g3.h _ _ m2 e2
    have a2 : All rI S3 xs vs := All.mo g3.s r2
    refine ⟨a, .int x, .int x, xs.map PyData.int, j, .int x, rfl, rfl, .lst (.of e3) (dp_ints a2), .int x, shaped_ints xs, (q_I).sh (by decide) x, by rw [List.getElem?_map, h1]; rfl, by simp only [PyData.eqv]; exact beq_self_eq_true x, fun m z' hm hz => ?_, q _ _ S3 H3 s3 (g2.tr g3) p3 rfl hm4⟩
    rw [List.getElem?_map] at hz
    cases hy : xs[m]? with
    | none => rw [hy] at hz; cases hz
    | some y =>
      rw [hy] at hz
      cases hz
      have := h2 m y hm hy
      simp only [PyData.eqv]
      cases hb : y == x with
      | false => rfl
      | true => exact absurd (eq_of_beq hb) this⟩
theorem c_cnt {m : (List Int → μ β) → μ β} {m' : (Int → μ β) → μ β} (h : EvR p te σ S H m (aAll rI)) (h' : Ev p ta σ S H m' rI) : Ev p (tBM K "list" (rCntI K) te (tCons ta tNil)) σ S H (fun k => m fun xs => m' fun x => k (xs.count x : Int)) rI := fun S1 H1 s g ps k z hm Q q =>
  h S1 H1 s g ps _ z hm _ fun xs a vs S2 H2 s2 g2 p2 e2 m2 r2 hm2 => ⟨.inl ⟨rfl, _, .of e2⟩, h' S2 H2 s2 (g.tr g2) p2 _ z hm2 _ fun x v S3 H3 s3 g3 p3 r3 hm3 => by
    cases (show v = .int x from r3)
    have e4 := All.ints r2
    subst e4
    exact ⟨a, xs, x, rfl, rfl, .of (g3.h _ _ m2 e2), q _ _ S3 H3 s3 (g2.tr g3) p3 rfl hm3⟩⟩
end
end Wk
set_option Elab.async false
set_option maxRecDepth 100000
set_option maxHeartbeats 4000000
set_option linter.all false
/-! W13: a list of ones own as an argument, == of what may be none -/
namespace Wk
open PySem L2
open PyProof.Rows hiding St
/-- the list of ones own at a place -/
def rQ {α : Type} (q : Addr) (xs : List α) : Rp (List α) := fun a v _ => a = xs ∧ v = .ref q
instance {α : Type} (q : Addr) (xs : List α) : Mo (rQ q xs) := ⟨fun _ h => h⟩
instance {α γ : Type} {R : Rp α} {R' : Rp γ} [NN R] [NN R'] : NN (rU R R') := ⟨fun a v S h => match a, h with
  | .inl a, h => NN.nn (R := R) a v S h
  | .inr a, h => NN.nn (R := R') a v S h⟩
section
variable {μ : Type → Type} {τ : Type} [Mir μ τ] {α β γ δ ρ ζ : Type} {p : Pt τ} {σ : St} {S H S0 H0 : Hp} {te ta tb tc : TE} {tt : TT} {K : PySem.W.Frag} {L : List (Addr × HO)}
/-- a list of ones own is handed to a def that leaves it as it is, and gives nothing that lives on the heap -/
theorem e_callO {fm : α → Option ρ} {A A' : Rq α} {R : Rp ρ} {t : TA} {E : XK} {m : (α → μ β) → μ β} {q : Addr} {us : List V} {j : Nat} (w : Wd p S0 H0 S H L) (hj : L[j]? = some (q, .lst us)) (h : EvA p t σ S H m A')
    (hA : ∀ a vs S1, Ex S S1 → Ex S1 (upd S1 q (.lst us)) → A' a vs S1 → A a vs (upd S1 q (.lst us))) (hR : ∀ r v S S', R r v S → R r v S') :
    Ev p (tCall (spV F0 fm (fun _ => A) R) [] E t) σ S H (fun k => m fun a => Mir.lft (fm a) >>= k) R := fun S1 H1 s g ps k z hm Q qq =>
  h S1 H1 s g ps _ z hm _ fun a vs S2 H2 s2 g2 p2 r hm2 => by
    obtain ⟨b, e, hm3⟩ := run_of_lft hm2
    have gt := g.tr g2
    have o := w.at hj
    have hM := w.nmAt hj
    have q2 : H2 q = some (.lst us) := gt.h _ _ hM o.1
    have n2 : S2 q = none := gt.f _ _ o.1 o.2.1
    have ex1 : Ex S2 (upd S2 q (.lst us)) := fun x u hx => by
      rw [upd_ne (ne_of_none hx n2)]; exact hx
    have ex2 : Ex (upd S2 q (.lst us)) H2 := fun x u hx => by
      by_cases c : x = q
      · subst c; rw [upd_same] at hx; rw [q2]; exact hx
      · rw [upd_ne c] at hx; exact g2.i x u hx
    refine ⟨(), a, upd S2 q (.lst us), (), b, (), ex2, pot0', by rw [List.append_nil]; exact hA a vs S2 gt.s ex1 r, by show (fm a).map _ = _; rw [e]; rfl, fun v S' H' g3 _ r3 => ?_⟩
    have g4 : Gm [] S2 H2 S2 H' := ⟨Ex.rf, (ex1.tr g3.s).tr g3.i, fun x u hx hu => g3.h x u hx hu, fun x u hx hn => hn, g3.t⟩
    exact qq b v S2 H' s2 (g2.tr (Gm.up g4)) (p2.go g4) (hR _ _ _ _ r3) hm3
theorem hR_I : ∀ (r : Int) v (S S' : Hp), rI r v S → rI r v S' := fun _ _ _ _ h => h
theorem hR_B : ∀ (r : Bool) v (S S' : Hp), rB r v S → rB r v S' := fun _ _ _ _ h => h
theorem hR_S : ∀ (r : Str) v (S S' : Hp), rS r v S → rS r v S' := fun _ _ _ _ h => h
/-! == of what may be none -/
structure NoN (d : α → PyData) : Prop where
  l : ∀ a, PyData.eqv (d a) .none = false
  r : ∀ a, PyData.eqv .none (d a) = false
theorem nn_I : NoN PyData.int := ⟨fun a => by simp only [PyData.eqv], fun a => by simp only [PyData.eqv]⟩
theorem nn_B : NoN PyData.bool := ⟨fun a => by simp only [PyData.eqv], fun a => by simp only [PyData.eqv]⟩
theorem nn_T {ds : α → List PyData} : NoN (fun a => PyData.tuple (ds a)) := ⟨fun a => by simp only [PyData.eqv], fun a => by simp only [PyData.eqv]⟩
theorem nn_L {ds : α → List PyData} : NoN (fun a => PyData.list (ds a)) := ⟨fun a => by simp only [PyData.eqv], fun a => by simp only [PyData.eqv]⟩
theorem q_O {n : Nat} {d : α → PyData} (h : EqD n d) (hn : NoN d) : EqD n (dO d) := by
  refine ⟨fun a b => ?_, fun a => ?_, fun a => ?_⟩
  · cases a with
    | none => cases b with
      | none => simp only [dO, PyData.eqv]
      | some b => simp only [dO, hn.r]; simp
    | some a => cases b with
      | none => simp only [dO, hn.l]; simp
      | some b => simp only [dO]; rw [h.e]; simp
  · cases a with
    | none => rfl
    | some a => exact h.l a
  · cases a with
    | none => simp only [dO, PyData.depth]; omega
    | some a => exact h.d a
end
end Wk
set_option Elab.async false
set_option maxRecDepth 100000
set_option maxHeartbeats 4000000
set_option linter.all false
/-! W14: sorted of pairs, lists of known make put together, extend by any list -/
namespace Wk
open PySem L2
open PyProof.Rows hiding St
/-- a tuple made by a display -/
def rPT {α : Type} (A : Rq α) : Rp α := fun a v S => ∃ p vs, v = .ref p ∧ S p = some (.tup vs) ∧ A a vs S
instance {α : Type} (A : Rq α) [Mo A] : Mo (rPT A) := ⟨fun e ⟨p, vs, h1, h2, h3⟩ => ⟨p, vs, h1, e _ _ h2, Mo.mo e h3⟩⟩
instance {α : Type} {A : Rq α} : NN (rPT A) := ⟨fun _ _ _ ⟨_, _, h, _⟩ e => by rw [h] at e; cases e⟩
theorem rPT.t {α : Type} {K : PySem.W.Frag} {A : Rq α} {a : α} {v : V} {S : Hp} (h : rPT A a v S) : rT K A a v S := by
  obtain ⟨p, vs, h1, h2, h3⟩ := h
  exact ⟨p, vs, h1, .of h2, h3⟩
theorem All.imp {α : Type} {R R' : Rp α} {S : Hp} (h : ∀ a v, R a v S → R' a v S) : ∀ {xs : List α} {vs : List V}, All R S xs vs → All R' S xs vs
  | _, _, .nil => .nil
  | _, _, .cons x t => .cons (h _ _ x) (t.imp h)
/-! lists of pairs, sorted -/
def leP (p q : Int × Int) : Prop := SrtO.lexB q p = false
instance (p q : Int × Int) : Decidable (leP p q) := inferInstanceAs (Decidable (_ = _))
theorem leP_iff {p q : Int × Int} : leP p q ↔ p.1 < q.1 ∨ (p.1 = q.1 ∧ p.2 ≤ q.2) := by
  unfold leP
  cases e : SrtO.lexB q p with
  | true =>
    have := SrtO.lexB_iff.mp e
    constructor
    · intro h; cases h
    · intro h; omega
  | false =>
    have : ¬ (q.1 < p.1 ∨ (q.1 = p.1 ∧ q.2 < p.2)) := fun z => by rw [SrtO.lexB_iff.mpr z] at e; cases e
    exact ⟨fun _ => by omega, fun _ => rfl⟩
def ins2 (x : Int × Int) : List (Int × Int) → List (Int × Int)
  | [] => [x]
  | y :: r => if leP x y then x :: y :: r else y :: ins2 x r
def srt2 : List (Int × Int) → List (Int × Int)
  | [] => []
  | x :: r => ins2 x (srt2 r)
theorem ins2_perm (x : Int × Int) : ∀ l, (ins2 x l).Perm (x :: l)
  | [] => .refl _
  | y :: r => by
    unfold ins2
    split
    · exact .refl _
    · exact ((ins2_perm x r).cons y).trans (.swap x y r)
theorem srt2_perm : ∀ l, (srt2 l).Perm l
  | [] => .refl _
  | x :: r => (ins2_perm x (srt2 r)).trans ((srt2_perm r).cons x)
theorem ins2_sorted (x : Int × Int) : ∀ l, List.Pairwise leP l → List.Pairwise leP (ins2 x l)
  | [], _ => by simp [ins2]
  | y :: r, h => by
    unfold ins2
    obtain ⟨h1, h2⟩ := List.pairwise_cons.mp h
    split
    · rename_i hx
      refine List.pairwise_cons.mpr ⟨fun a ha => ?_, h⟩
      rcases List.mem_cons.mp ha with e | ha
      · rw [e]; exact hx
      · have := leP_iff.mp (h1 a ha)
        have := leP_iff.mp hx
        exact leP_iff.mpr (by omega)
    · rename_i hx
      refine List.pairwise_cons.mpr ⟨fun a ha => ?_, ins2_sorted x r h2⟩
      rcases List.mem_cons.mp ((ins2_perm x r).mem_iff.mp ha) with e | ha
      · rw [e]
        have hx : ¬ (x.1 < y.1 ∨ (x.1 = y.1 ∧ x.2 ≤ y.2)) := fun z => hx (leP_iff.mpr z)
        exact leP_iff.mpr (by omega)
      · exact h1 a ha
theorem srt2_sorted : ∀ l, List.Pairwise leP (srt2 l)
  | [] => .nil
  | x :: r => ins2_sorted x _ (srt2_sorted r)
theorem sorted2_one {a b : List (Int × Int)} (h : a.Perm b) (ha : List.Pairwise leP a) (hb : List.Pairwise leP b) : a = b :=
  h.eq_of_pairwise (fun x y _ _ h1 h2 => by
    have h1 := leP_iff.mp h1
    have h2 := leP_iff.mp h2
    exact Prod.ext (by omega) (by omega)) ha hb
section
variable {μ : Type → Type} {τ : Type} [Mir μ τ] {α β γ δ ρ ζ : Type} {p : Pt τ} {σ : St} {S H S0 H0 : Hp} {te ta tb tc : TE} {tt : TT} {K : PySem.W.Frag} {L : List (Addr × HO)} {D : Ends} {tz : TS} {s : τ} {z : β × τ}
theorem Ev.unP {A : Rq α} {m : (α → μ β) → μ β} (h : Ev p te σ S H m (rPT A)) : Ev p te σ S H m (rT K A) := fun S1 H1 s g ps k z hm Q q =>
  h S1 H1 s g ps k z hm _ fun a v S2 H2 s2 g2 p2 r hm2 => q a v S2 H2 s2 g2 p2 r.t hm2
/-- what may be none, and is not -/
theorem Ev.unO {R : Rp α} {m : (Option α → μ β) → μ β} (h : Ev p te σ S H m (rO R)) : Ev p te σ S H (fun k => m fun a => Mir.lft a >>= k) R := fun S1 H1 s g ps k z hm Q q =>
  h S1 H1 s g ps _ z hm _ fun a v S2 H2 s2 g2 p2 r hm2 => by
    obtain ⟨x, e, hm3⟩ := run_of_lft hm2
    subst e
    exact q x v S2 H2 s2 g2 p2 r hm3
theorem e_tupP {m : (α → μ β) → μ β} {A : Rq α} {t : TA} {n : Nat} [Mo A] (h : EvA p t σ S H m A) (hn : ArN n A) (hz : n ≤ sizeLine) : Ev p (tTup t) σ S H m (rPT A) := fun S1 H1 s g ps k z hm Q q =>
  h S1 H1 s g ps k z hm _ fun a vs S2 H2 s2 g2 p2 r hm2 => ⟨Nat.le_trans (hn _ _ _ r) hz, fun x hx =>
    have g3 : Gm p.M S2 H2 (upd S2 x (.tup vs)) (upd H2 x (.tup vs)) := Gm.new g2.i hx
    q a _ _ _ s2 (g2.tr g3) (p2.go (Gm.new g2.i hx)) ⟨x, vs, rfl, upd_same, Mo.mo g3.s r⟩ hm2⟩
theorem g_pt {g : TG} {A : Rq α} {P : α → St → St → Hp → Prop} (h : Tg g (rT K A) P) : Tg g (rPT A) P := fun a v σ S H Q e r q => h a v σ S H Q e r.t q
theorem d_PT {A : Rq α} {ds : α → List PyData} (h : isDs K A ds) : isD K (rPT A) fun a => .tuple (ds a) := fun a v S H r e => d_T h a v S H r.t e
/-- the pair at a value -/
def prV (S : Hp) : V → Int × Int
  | .ref a => match S a with
    | some (.tup [.int i, .int j]) => (i, j)
    | _ => (0, 0)
  | _ => (0, 0)
theorem prV_eq {S : Hp} {x : Int × Int} {v : V} (h : rPT (aCons rI (aOne rI)) x v S) : ∃ t, v = .ref t ∧ S t = some (.tup [.int x.1, .int x.2]) ∧ prV S v = x := by
  obtain ⟨t, vs, rfl, h2, v1, r, rfl, h3, v2, rfl, h4⟩ := h
  cases (show v1 = .int x.1 from h3)
  cases (show v2 = .int x.2 from h4)
  refine ⟨t, rfl, h2, ?_⟩
  show (match S t with | some (.tup [.int i, .int j]) => (i, j) | _ => ((0 : Int), (0 : Int))) = x
  rw [h2]
theorem All.prs {S : Hp} : ∀ {xs : List (Int × Int)} {vs : List V}, All (rPT (aCons rI (aOne rI))) S xs vs → vs.map (prV S) = xs ∧ ∀ v ∈ vs, ∃ t, v = .ref t ∧ S t = some (.tup [.int (prV S v).1, .int (prV S v).2])
  | _, _, .nil => ⟨rfl, fun _ h => nomatch h⟩
  | _, _, .cons h t => by
    obtain ⟨h1, h2⟩ := t.prs
    obtain ⟨a, e1, e2, e3⟩ := prV_eq h
    refine ⟨by rw [List.map_cons, e3, h1], fun v hv => ?_⟩
    rcases List.mem_cons.mp hv with e | hv
    · rw [e]; exact ⟨a, e1, by rw [e3]; exact e2⟩
    · exact h2 v hv
theorem All.of_prs {S : Hp} : ∀ {vs : List V}, (∀ v ∈ vs, ∃ t, v = .ref t ∧ S t = some (.tup [.int (prV S v).1, .int (prV S v).2])) → All (rT K (aCons rI (aOne rI))) S (vs.map (prV S)) vs
  | [], _ => .nil
  | v :: vs, h => by
    obtain ⟨t, e1, e2⟩ := h v (List.mem_cons_self ..)
    exact .cons ⟨t, _, e1, .of e2, _, _, rfl, rfl, _, rfl, rfl⟩ (All.of_prs fun w hw => h w (List.mem_cons_of_mem _ hw))
/-- sorted(xs), xs pairs of ints -/
theorem l_srtP {m : (List (Int × Int) → μ β) → μ β} (h : EvR p te σ S H m (aAll (rPT (aCons rI (aOne rI))))) : EvL p (tCB (rSortedPO K) (tCons te tNil)) σ S H (fun k => m fun xs => k (srt2 xs)) (aAll (rT K (aCons rI (aOne rI)))) := fun S1 H1 s g ps k z hm Q q =>
  h S1 H1 s g ps _ z hm _ fun xs x vs S2 H2 s2 g2 p2 e2 m2 r2 hm2 => by
    obtain ⟨a1, a2⟩ := All.prs r2
    refine ⟨x, vs, prV S2, rfl, .of e2, fun v hv => ?_, fun ys y h1 h2 hy => ?_⟩
    · obtain ⟨t, e1, e3⟩ := a2 v hv
      exact ⟨t, e1, g2.i _ _ e3⟩
    · have e : ys.map (prV S2) = srt2 xs := by
        refine sorted2_one ?_ ?_ (srt2_sorted xs)
        · have := (h2.perm.map (prV S2))
          rw [a1] at this
          exact this.trans (srt2_perm xs).symm
        · exact List.pairwise_map.mpr h1
      have a3 : All (rT K (aCons rI (aOne rI))) S2 (srt2 xs) ys := by
        rw [← e]
        exact All.of_prs fun v hv => a2 v (h2.perm.mem_iff.mp hv)
      exact q (srt2 xs) y _ S2 _ s2 (g2.tr (Gm.own g2.i hy)) (p2.go (Gm.own g2.i hy)) (back_none g2 hy) upd_same (g2.i.no hy) (new_nM p2 hy) a3 hm2
/-- lists of known make, put together -/
theorem l_catC {A : Rq α} {B : Rq γ} {C : Rq δ} [Mo A] {mA : (α → μ β) → μ β} {mB : (γ → μ β) → μ β} (f : α → γ → δ) (n : Nat) (ha : EvR p ta σ S H mA A) (hb : EvR p tb σ S H mB B) (hf : ∀ a b vs ws S, A a vs S → B b ws S → C (f a b) (vs ++ ws) S ∧ vs.length + ws.length ≤ n) (hn : n ≤ sizeLine) :
    EvL p (tOp rCat ta tb) σ S H (fun k => mA fun a => mB fun b => k (f a b)) C := fun S1 H1 s g ps k z hm Q q =>
  ha S1 H1 s g ps _ z hm _ fun xs x vs S2 H2 s2 g2 p2 e2 m2 r2 hm2 => hb S2 H2 s2 (g.tr g2) p2 _ z hm2 _ fun ys y us S3 H3 s3 g3 p3 e3 m3 r3 hm3 => by
    obtain ⟨hc, hl⟩ := hf xs ys vs us S3 (Mo.mo g3.s r2) r3
    refine ⟨x, y, vs, us, rfl, rfl, g3.h _ _ m2 e2, e3, Nat.le_trans hl hn, fun l hl => ?_⟩
    have n1 : H1 l = none := by
      cases e : H1 l with
      | none => rfl
      | some u => obtain ⟨u', e'⟩ := (g2.tr g3).t l u e; rw [hl] at e'; cases e'
    exact q _ l _ S3 _ s3 ((g2.tr g3).tr (Gm.own g3.i hl)) (p3.go (Gm.own g3.i hl)) n1 upd_same (g3.i.no hl) (new_nM p3 hl) hc hm3
/-- xs.extend(ys), ys any list -/
theorem q_extR {i j : Nat} {q : Addr} {vs : List V} {xs : List α} {m : (List α → μ β) → μ β} {R : Rp α} [Mo R] {k : List α → μ β} (w : Wd p S0 H0 S H L) (ps : PotAt p s S H) (hj : L[j]? = some (q, .lst vs)) (e : σ[i]? = some (some (.ref q))) (ha : All R S xs vs) (h : EvR p te σ S H m (aAll R))
    (hm : Mir.run (m fun a => Mir.lft (grd (xs.length + a.length ≤ 16000000)) >>= fun _ => bnd (xs ++ a) k) s = some z)
    (nx : ∀ ys us S1 H1 s1, Wd p S0 H0 S1 H1 (L.set j (q, .lst us)) → PotAt p s1 S1 H1 → Ex S S1 → All R S1 ys us → Mir.run (k ys) s1 = some z → tz D σ H1) : tSeq (tDrop (tBM K "list" rExtend (tVar i) (tCons te tNil))) tz D σ H :=
  ⟨.ref q, e, ty_own (w.at hj).1, h S H s (Gm.rf w.i) ps _ z hm _ fun a x us S1 H1 s1 g p1 e2 m2 r hm1 => by
    obtain ⟨_, e1, hm1⟩ := run_of_lft hm1
    have hl := grd_of e1
    have w1 := w.go g
    have hr : All R S1 a us := r
    refine ⟨q, x, vs, us, rfl, rfl, (w1.at hj).1, e2, by rw [← ha.len, ← hr.len, sizeLine_eq]; omega, ?_⟩
    exact nx (xs ++ a) (vs ++ us) S1 _ s1 (w1.put hj) (p1.put (w.nmAt hj)) g.s ((ha.mo g.s).app hr) hm1⟩
end
section
variable {X : Cx}
theorem k_srtP (K : PySem.W.Frag) (h : X.K = K := by rfl) : CallR X (.builtin "sorted") (rSortedPO K) := h ▸ cr_sortedPO
end
end Wk
set_option Elab.async false
set_option maxRecDepth 100000
set_option maxHeartbeats 4000000
set_option linter.all false
/-! W15: dicts of ones own, keys ints or texts -/
namespace Wk
open PySem L2
open PyProof.Rows hiding St
section
variable {κ α : Type} [DecidableEq κ]
def dget (d : List (κ × α)) (k : κ) : Option α := (d.find? fun y => decide (y.1 = k)).map (·.2)
def dput (d : List (κ × α)) (k : κ) (x : α) : List (κ × α) := if (d.any fun y => decide (y.1 = k)) = true then d.map (fun y => if y.1 = k then (y.1, x) else y) else d ++ [(k, x)]
/-- what a dict holds -/
inductive AllD (e : κ → Key) (R : Rp α) (S : Hp) : List (κ × α) → List (Key × V) → Prop
  | nil : AllD e R S [] []
  | cons {k : κ} {x : α} {v : V} {d : List (κ × α)} {kvs : List (Key × V)} : R x v S → AllD e R S d kvs → AllD e R S ((k, x) :: d) ((e k, v) :: kvs)
variable {e : κ → Key} {R : Rp α} {S S' : Hp}
theorem AllD.mo [Mo R] (hs : Ex S S') : ∀ {d : List (κ × α)} {kvs : List (Key × V)}, AllD e R S d kvs → AllD e R S' d kvs
  | _, _, .nil => .nil
  | _, _, .cons h t => .cons (Mo.mo hs h) (t.mo hs)
theorem AllD.len : ∀ {d : List (κ × α)} {kvs : List (Key × V)}, AllD e R S d kvs → d.length = kvs.length
  | _, _, .nil => rfl
  | _, _, .cons _ t => congrArg Nat.succ t.len
theorem AllD.get (inj : ∀ a b, e a = e b → a = b) {k : κ} : ∀ {d : List (κ × α)} {kvs : List (Key × V)}, AllD e R S d kvs → (∀ x, dget d k = some x → ∃ v, valV kvs (e k) = some v ∧ R x v S) ∧ (dget d k = none → valV kvs (e k) = none)
  | _, _, .nil => ⟨fun x h => (by cases h), fun _ => rfl⟩
  | _, _, .cons (k := j) (x := y) (v := v) (d := d) (kvs := kvs) h t => by
    obtain ⟨h1, h2⟩ := t.get inj (k := k)
    by_cases z : j = k
    · subst z
      refine ⟨fun x hx => ⟨v, valV_pos rfl, ?_⟩, fun hx => ?_⟩
      · unfold dget at hx
        rw [List.find?_cons_of_pos (by simp)] at hx
        cases hx; exact h
      · unfold dget at hx
        rw [List.find?_cons_of_pos (by simp)] at hx
        cases hx
    · have hn : ¬ e j = e k := fun q => z (inj _ _ q)
      have ed : dget ((j, y) :: d) k = dget d k := by
        unfold dget
        rw [List.find?_cons_of_neg (by simp [z])]
      rw [ed, valV_neg hn]
      exact ⟨h1, h2⟩
theorem AllD.any (inj : ∀ a b, e a = e b → a = b) {k : κ} : ∀ {d : List (κ × α)} {kvs : List (Key × V)}, AllD e R S d kvs → (d.any fun y => decide (y.1 = k)) = (kvs.any fun y => decide (y.1 = e k))
  | _, _, .nil => rfl
  | _, _, .cons (k := j) h t => by
    rw [List.any_cons, List.any_cons, t.any inj]
    congr 1
    exact decide_eq_decide.mpr ⟨fun q => congrArg e q, fun q => inj _ _ q⟩
theorem AllD.app : ∀ {d : List (κ × α)} {kvs : List (Key × V)} {k : κ} {x : α} {v : V}, AllD e R S d kvs → R x v S → AllD e R S (d ++ [(k, x)]) (kvs ++ [(e k, v)])
  | _, _, _, _, _, .nil, h => .cons h .nil
  | _, _, _, _, _, .cons h t, h' => .cons h (t.app h')
theorem AllD.repl (inj : ∀ a b, e a = e b → a = b) {k : κ} {x : α} {v : V} (hx : R x v S) : ∀ {d : List (κ × α)} {kvs : List (Key × V)}, AllD e R S d kvs → AllD e R S (d.map fun y => if y.1 = k then (y.1, x) else y) (kvs.map fun y => if y.1 = e k then (y.1, v) else y)
  | _, _, .nil => .nil
  | _, _, .cons (k := j) (x := y) (v := u) (d := d) (kvs := kvs) h t => by
    rw [List.map_cons, List.map_cons]
    by_cases z : j = k
    · rw [if_pos z, if_pos (congrArg e z)]
      exact .cons hx (t.repl inj hx)
    · rw [if_neg z, if_neg fun q => z (inj _ _ q)]
      exact .cons h (t.repl inj hx)
theorem AllD.put (inj : ∀ a b, e a = e b → a = b) {k : κ} {x : α} {v : V} (hx : R x v S) {d : List (κ × α)} {kvs : List (Key × V)} (h : AllD e R S d kvs) : AllD e R S (dput d k x) (putK kvs (e k) v) := by
  unfold dput putK
  rw [h.any inj]
  by_cases z : (kvs.any fun y => decide (y.1 = e k)) = true
  · rw [if_pos z, if_pos z]
    exact h.repl inj hx
  · rw [if_neg z, if_neg z]
    exact h.app hx
end
theorem inj_I : ∀ a b : Int, (Sum.inl a : Key) = Sum.inl b → a = b := fun _ _ h => Sum.inl.inj h
theorem inj_S : ∀ a b : Str, (Sum.inr a : Key) = Sum.inr b → a = b := fun _ _ h => Sum.inr.inj h
/-- the key's value -/
def KRp {κ : Type} (R : Rp κ) (e : κ → Key) : Prop := ∀ a v S, R a v S → v = kV (e a)
theorem kr_I : KRp rI Sum.inl := fun _ _ _ h => h
theorem kr_S : KRp rS Sum.inr := fun _ _ _ h => h
section
variable {μ : Type → Type} {τ : Type} [Mir μ τ] {κ α β γ : Type} [DecidableEq κ] {p : Pt τ} {σ : St} {S H S0 H0 : Hp} {te tk tv : TE} {K : PySem.W.Frag} {L : List (Addr × HO)} {D : Ends} {tz : TS} {s : τ} {z : β × τ} {e : κ → Key} {R : Rp α} {RK : Rp κ}
theorem e_dGet {m : (κ → μ β) → μ β} {i j : Nat} {q : Addr} {kvs : List (Key × V)} {d : List (κ × α)} [Mo R] (inj : ∀ a b, e a = e b → a = b) (kr : KRp RK e) (w : Wd p S0 H0 S H L) (hj : L[j]? = some (q, .dK kvs)) (hi : σ[i]? = some (some (.ref q))) (ha : AllD e R S d kvs) (h : Ev p tk σ S H m RK) :
    Ev p (tDGet (tVar i) tk) σ S H (fun k => m fun x => Mir.lft (dget d x) >>= k) R := fun S1 H1 s1 g ps k z hm Q qq =>
  ⟨.ref q, hi, h S1 H1 s1 g ps _ z hm _ fun x v S2 H2 s2 g2 p2 r hm2 => by
    obtain ⟨y, e1, hm3⟩ := run_of_lft hm2
    have a2 := ha.mo (g.tr g2).s
    obtain ⟨u, e2, r2⟩ := (a2.get inj (k := x)).1 y e1
    rw [kr x v S2 r]
    have hq := (g.tr g2).h _ _ (w.nmAt hj) (w.at hj).1
    exact ⟨q, u, rfl, by rw [← e2]; exact DGet.k hq, qq y u S2 H2 s2 g2 p2 r2 hm3⟩⟩
theorem e_dIn {m : (κ → μ β) → μ β} {i j : Nat} {q : Addr} {kvs : List (Key × V)} {d : List (κ × α)} [Mo R] (inj : ∀ a b, e a = e b → a = b) (kr : KRp RK e) (w : Wd p S0 H0 S H L) (hj : L[j]? = some (q, .dK kvs)) (hi : σ[i]? = some (some (.ref q))) (ha : AllD e R S d kvs) (h : Ev p tk σ S H m RK) :
    Ev p (tDIn tk (tVar i)) σ S H (fun k => m fun x => k (dget d x).isSome) rB := fun S1 H1 s1 g ps k z hm Q qq =>
  h S1 H1 s1 g ps _ z hm _ fun x v S2 H2 s2 g2 p2 r hm2 => ⟨.ref q, hi, by
    have a2 := ha.mo (g.tr g2).s
    have hg := a2.get inj (k := x)
    rw [kr x v S2 r]
    have hq := (g.tr g2).h _ _ (w.nmAt hj) (w.at hj).1
    refine ⟨q, valV kvs (e x), rfl, DGet.k hq, qq _ _ S2 H2 s2 g2 p2 ?_ hm2⟩
    show V.bl _ = V.bl _
    cases hd : dget d x with
    | none => rw [hg.2 hd]; rfl
    | some y => obtain ⟨u, e2, _⟩ := hg.1 y hd; rw [e2]; rfl⟩
theorem e_dNotIn {m : (κ → μ β) → μ β} {i j : Nat} {q : Addr} {kvs : List (Key × V)} {d : List (κ × α)} [Mo R] (inj : ∀ a b, e a = e b → a = b) (kr : KRp RK e) (w : Wd p S0 H0 S H L) (hj : L[j]? = some (q, .dK kvs)) (hi : σ[i]? = some (some (.ref q))) (ha : AllD e R S d kvs) (h : Ev p tk σ S H m RK) :
    Ev p (tDNotIn tk (tVar i)) σ S H (fun k => m fun x => k (!(dget d x).isSome)) rB := fun S1 H1 s1 g ps k z hm Q qq =>
  h S1 H1 s1 g ps _ z hm _ fun x v S2 H2 s2 g2 p2 r hm2 => ⟨.ref q, hi, by
    have a2 := ha.mo (g.tr g2).s
    have hg := a2.get inj (k := x)
    rw [kr x v S2 r]
    have hq := (g.tr g2).h _ _ (w.nmAt hj) (w.at hj).1
    refine ⟨q, valV kvs (e x), rfl, DGet.k hq, qq _ _ S2 H2 s2 g2 p2 ?_ hm2⟩
    show V.bl _ = V.bl _
    cases hd : dget d x with
    | none => rw [hg.2 hd]; rfl
    | some y => obtain ⟨u, e2, _⟩ := hg.1 y hd; rw [e2]; rfl⟩
/-- d[k] = v -/
theorem q_dPut {i j : Nat} {q : Addr} {kvs : List (Key × V)} {d : List (κ × α)} {mv : (α → μ β) → μ β} {mk : (κ → μ β) → μ β} [Mo R] {k : List (κ × α) → μ β} (inj : ∀ a b, e a = e b → a = b) (kr : KRp RK e) (w : Wd p S0 H0 S H L) (ps : PotAt p s S H) (hj : L[j]? = some (q, .dK kvs)) (hi : σ[i]? = some (some (.ref q)))
    (ha : AllD e R S d kvs) (hv : Ev p tv σ S H mv R) (hk : Ev p tk σ S H mk RK) (hm : Mir.run (mv fun y => mk fun x => Mir.lft (grd (d.length < 16000000)) >>= fun _ => bnd (dput d x y) k) s = some z)
    (nx : ∀ d' kvs' S1 H1 s1, Wd p S0 H0 S1 H1 (L.set j (q, .dK kvs')) → PotAt p s1 S1 H1 → Ex S S1 → AllD e R S1 d' kvs' → Mir.run (k d') s1 = some z → tz D σ H1) : tSeq (sDPut (tVar i) tk tv) tz D σ H :=
  hv S H s (Gm.rf w.i) ps _ z hm _ fun y v S1 H1 s1 g1 p1 r1 hm1 => ⟨.ref q, hi, hk S1 H1 s1 g1 p1 _ z hm1 _ fun x u S2 H2 s2 g2 p2 r2 hm2 => by
    obtain ⟨_, e1, hm3⟩ := run_of_lft hm2
    have hl := grd_of e1
    have gt := g1.tr g2
    have w2 := w.go gt
    have a2 := ha.mo gt.s
    have rv := Mo.mo g2.s r1
    rw [kr x u S2 r2]
    refine ⟨q, _, rfl, DPut.k (w2.at hj).1 (by rw [← a2.len, sizeLine_eq]; omega), ?_⟩
    exact nx (dput d x y) (putK kvs (e x) v) S2 _ s2 (w2.put hj) (p2.put (w.nmAt hj)) gt.s (a2.put inj rv) hm3⟩
theorem x_dNew {k : List (κ × α) → μ β} {Q : VK} (w : Wd p S0 H0 S H L) (ps : PotAt p s S H) (hm : Mir.run (bnd ([] : List (κ × α)) k) s = some z)
    (nx : ∀ d q kvs S1 H1 s1, Wd p S0 H0 S1 H1 ((q, .dK kvs) :: L) → PotAt p s1 S1 H1 → Gm p.M S H S1 H1 → AllD e R S1 d kvs → Mir.run (k d) s1 = some z → Q (.ref q) H1) : tDNewK σ H Q := fun q hq => by
  have g : Gm p.M S H S (upd H q (.dK [])) := Gm.own w.i hq
  exact nx [] q [] S _ s (w.add g hq upd_same (w.i.no hq) (new_nM ps hq)) (ps.go (Gm.own w.i hq)) g .nil hm
/-- d = {} -/
theorem q_dNew {i : Nat} {k : List (κ × α) → μ β} (σ' : V → St) (hσ : ∀ v, σ.set i (some v) = σ' v) (w : Wd p S0 H0 S H L) (ps : PotAt p s S H) (hm : Mir.run (bnd ([] : List (κ × α)) k) s = some z)
    (nx : ∀ d q kvs S1 H1 s1, Wd p S0 H0 S1 H1 ((q, .dK kvs) :: L) → PotAt p s1 S1 H1 → Gm p.M S H S1 H1 → AllD e R S1 d kvs → Mir.run (k d) s1 = some z → tz D (σ' (.ref q)) H1) : tSeq (tAsg tDNewK (gName i)) tz D σ H := fun q hq => by
  have g : Gm p.M S H S (upd H q (.dK [])) := Gm.own w.i hq
  have h := nx [] q [] S _ s (w.add g hq upd_same (w.i.no hq) (new_nM ps hq)) (ps.go (Gm.own w.i hq)) g .nil hm
  rw [← hσ] at h
  exact h
end
end Wk
set_option Elab.async false
set_option maxRecDepth 100000
set_option maxHeartbeats 4000000
set_option linter.all false
/-! W16: the set of a list of ints -/
namespace Wk
open PySem PySem.Spec PyProof.Rows L2
/-- a set just made -/
abbrev nSet (b : Bool) : Obj := { cls := .type "set", dict := none, data := .set #[] 0 (.fresh 0 0 b) }
abbrev sOf (w : World) (s : Shared) : Heap := s.heap.push (nSet (!w.params.followText "set-order"))
/-- what its __init__ ends with -/
abbrev iniR (s : Shared) (Z : Heap → Prop) (E : Value → Shared → Prop) : Result → Shared → Prop := wants (fun r s2 => r = .none ∧ ∃ h' tk, s2 = { s with heap := h', toks := tk } ∧ Z h') E
section
variable {P : Program} {w : World} {A : Around} {E : Value → Shared → Prop} {s : Shared}
/-- set(v) by what its __init__ does -/
theorem set_by_init {v : Value} {Z : Heap → Prop} {Q : Value → Shared → Prop} (hh : A.handled = none)
    (hI : ∀ B : Around, B.handled = none → Shared.TypeIs { s with heap := sOf w s } (.ref s.heap.objs.size) "set" → wpAny (model P w) B.in1 (Builtin.«set.__init__» ⟨[.ref s.heap.objs.size, v], []⟩)
      (fun fin s2 => match fin with
        | .done f => iniR s Z E (.ok f) s2
        | .again c => c.quiet = true ∧ codeAny (model P w) B c (iniR s Z E) s2) (fun e s2 => iniR s Z E (.error e) s2) { s with heap := sOf w s })
    (h : ∀ h' tk, Z h' → Q (.ref s.heap.objs.size) { s with heap := h', toks := tk }) : wpAny (model P w) A (call (.type "set") [v]) Q E s := by
  obtain ⟨m1, m2, m3⟩ := F.called_set.mro
  have k1 := F.called_set.made
  have k2 := F.called_set.sub
  have k3 := F.called_set.notType
  have k4 := F.called_set.canCreate
  have k5 := F.typeCall_set_1 v
  refine wpAny_call (codeAny_of_tree (wpAny_pure ⟨Code.quiet_builtin _ (by decide +kernel), codeAny_builtin F.entry_type_call ?_⟩))
  rw [Around.under_plain (weight_type_call_type "set" [v] []) rfl]
  repeat (any_goals (first | assumption | wp_step))
  refine codeAny_mono (code_set_led1 (E := E) v (Q₁ := fun o s1 => o = .ref s.heap.objs.size ∧ s1 = { s with heap := sOf w s }) ⟨rfl, rfl⟩) fun r s1 hr => ?_
  rcases r with e1 | fl
  · exact hr
  rcases fl with _ | _ | _ | o
  · exact hr.elim
  · exact hr.elim
  · exact hr.elim
  obtain ⟨rfl, rfl⟩ := hr
  have ty : Shared.TypeIs { s with heap := sOf w s } (.ref s.heap.objs.size) "set" := ⟨_, Heap.get?_push_size _ rfl, rfl⟩
  have k6 := F.called_set.init.lookup
  have k7 := F.called_set.init.bind (.ref s.heap.objs.size)
  repeat (any_goals (first | assumption | wp_step))
  refine codeAny_mono (codeAny_call_builtin F.called_set.init.plain F.entry_set_init (check_set_init_1 ty (hI _ (by simp [hh]) ty))) fun r2 s2 hr2 => ?_
  rcases r2 with e2 | fl2
  · exact hr2
  rcases fl2 with _ | _ | _ | o2
  · exact hr2.elim
  · exact hr2.elim
  · exact hr2.elim
  obtain ⟨rfl, h', tk, rfl, hz⟩ := hr2
  repeat (any_goals (first | assumption | wp_step))
  exact h h' tk hz
/-- set(xs), xs a list of ints -/
theorem set_ints {l : Addr} {items : Array Value} {ns : List Int} {Q : Value → Shared → Prop} (hh : A.handled = none) (hl : s.heap.IsList l items) (hi : IntsAre items.toList ns) (hb : ns.length + 1 < scanBound)
    (h : ∀ h' tk c, SetR w h' s.heap.objs.size (fun j => decide (j ∈ ns)) c → c ≤ ns.length → (∀ b o, s.heap.get? b = some o → h'.get? b = some o) → Q (.ref s.heap.objs.size) { s with heap := h', toks := tk }) :
    wpAny (model P w) A (call (.type "set") [.ref l]) Q E s := by
  have hz : items.size = ns.length := by rw [← hi.length, Array.length_toList]
  refine set_by_init (Z := fun h' => ∃ c, SetR w h' s.heap.objs.size (fun j => decide (j ∈ ns)) c ∧ c ≤ ns.length ∧ ∀ b o, s.heap.get? b = some o → h'.get? b = some o) hh (fun B hB ty => ?_) fun h' tk ⟨c, q1, q2, q3⟩ => h h' tk c q1 q2 q3
  obtain ⟨o, ho, hc, n, hd⟩ := hl
  obtain ⟨oc, od, ot, os⟩ := o
  cases hc
  cases hd
  have lt : l < s.heap.objs.size := Heap.lt_size ho
  have g1 : (sOf w s).get? l = some { cls := .type "list", dict := od, data := .seq items n, slots := os } := Heap.get?_push_of_some _ ho
  have il : (sOf w s).IsList l items := ⟨_, g1, rfl, n, rfl⟩
  have u1 := F.sub_list_set
  have u2 := F.sub_list_frozenset
  have u3 : (Value.type "list" == Value.type "dict") = false := by decide
  unfold Builtin.«set.__init__» noKeywords Builtin.Frozenset.updateFrom
  generalize hp : pyIter = PI
  wp_walk
  subst hp
  refine wpAny_pyIter_list il (wpAny_bind (wpAny_runValue ?_))
  have zs : (sOf w s).objs.size = s.heap.objs.size + 1 := Heap.size_push ..
  have ne1 : l ≠ (sOf w s).objs.size := by rw [zs]; exact Nat.ne_of_lt (Nat.lt_succ_of_lt lt)
  have ne2 : s.heap.objs.size ∉ [(sOf w s).objs.size, l] := by
    rw [zs]
    intro q
    rcases List.mem_cons.mp q with q | q
    · exact Nat.ne_of_lt (Nat.lt_succ_self _) q
    · exact Nat.ne_of_gt lt (List.mem_singleton.mp q)
  have each : ∀ (i : Nat) (v : Value), items[i]? = some v → ∃ k t, ns[i]? = some k ∧ v = .int k t := fun i v hv => by
    have hlt : i < ns.length := by rw [← hz]; exact (Array.getElem?_eq_some_iff.mp hv).1
    obtain ⟨t, e⟩ := hi.int_at i v (by rw [Array.getElem?_toList]; exact hv)
    refine ⟨ns[i], t, List.getElem?_eq_getElem hlt, e.trans ?_⟩
    rw [List.getD_eq_getElem?_getD, List.getElem?_eq_getElem hlt]; rfl
  have made : ((sOf w s).push { cls := .type "list_iterator", data := .fields #[.ref l, .int 0 0] }).get? s.heap.objs.size = some (nSet (!w.params.followText "set-order")) := Heap.get?_push_of_some _ (Heap.get?_push_size _ rfl)
  refine set_update_ints ((Walks.list (by simp [hB]) _ l ne1 items).toS) s.heap.objs.size ne2 ns hz hb each (items.size - 0) 0 _ (by omega) (Nat.zero_le _) ⟨⟨_, Heap.get?_push_size _ rfl, rfl, rfl⟩, il.push _⟩ ⟨0, Nat.le_refl 0, setR_new_at made⟩ fun s2 c mv hc hS => ?_
  obtain ⟨h2, ge, dr, tk, o2⟩ := s2
  cases (show ge = s.gens from mv.gens)
  cases (show dr = s.drawn from mv.drawn)
  cases (show o2 = s.os from mv.os)
  show wpAny _ _ _ _ _ _
  refine wpAny_pure ?_
  show wpAny _ _ (ret Value.none) _ _ _
  refine wpAny_pure ⟨rfl, h2, tk, rfl, c, hS, by rw [← hz]; exact hc, fun b o e => ?_⟩
  have b1 := Heap.lt_size e
  refine mv.heap b o (fun q => ?_) (Heap.get?_push_of_some _ (Heap.get?_push_of_some _ e))
  rcases List.mem_cons.mp q with q | q
  · exact Nat.ne_of_lt b1 q
  · have q := List.mem_singleton.mp q
    rw [zs] at q
    exact Nat.ne_of_lt (Nat.lt_succ_of_lt b1) q
end
end Wk
set_option Elab.async false
set_option maxRecDepth 100000
set_option maxHeartbeats 4000000
set_option linter.all false
/-! M0: what a mirror gives, told by rules -/
namespace Wk
open PySem L2
open PyProof.Rows hiding St
section
variable {μ : Type → Type} {τ : Type} [Mir μ τ] {α β γ ζ ρ : Type} {s : τ} {P : β → τ → Prop}
/-- from s on m ends with a value and a state of P -/
def Tt (s : τ) (m : μ α) (P : α → τ → Prop) : Prop := ∃ a s1, Mir.run m s = some (a, s1) ∧ P a s1
theorem tt_pure {a : β} : Tt s (pure a : μ β) P ↔ P a s := by
  constructor
  · rintro ⟨b, s1, e, h⟩
    cases run_of_pure e
    exact h
  · intro h
    exact ⟨a, s, Mir.run_pure _ _, h⟩
theorem tt_bind {m : μ α} {k : α → μ β} : Tt s (m >>= k) P ↔ Tt s m (fun a s1 => Tt s1 (k a) P) := by
  constructor
  · rintro ⟨b, s1, e, h⟩
    obtain ⟨a, s2, e1, e2⟩ := run_of_bind e
    exact ⟨a, s2, e1, b, s1, e2, h⟩
  · rintro ⟨a, s2, e1, b, s1, e2, h⟩
    refine ⟨b, s1, ?_, h⟩
    rw [Mir.run_bind, e1]
    exact e2
theorem tt_grd {c : Prop} [Decidable c] {k : Unit → μ β} : Tt s (Mir.lft (grd c) >>= k) P ↔ c ∧ Tt s (k ()) P := by
  constructor
  · rintro ⟨b, s1, e, h⟩
    obtain ⟨u, e1, e2⟩ := run_of_lft e
    exact ⟨grd_of e1, b, s1, e2, h⟩
  · rintro ⟨hc, b, s1, e, h⟩
    refine ⟨b, s1, ?_, h⟩
    rw [Mir.run_bind, Mir.run_lft, grd, if_pos hc]
    exact e
theorem tt_grP {c : Prop} {k : Unit → μ β} : Tt s (Mir.lft (grP c) >>= k) P ↔ c ∧ Tt s (k ()) P := by
  constructor
  · rintro ⟨b, s1, e, h⟩
    obtain ⟨u, e1, e2⟩ := run_of_lft e
    exact ⟨grP_of e1, b, s1, e2, h⟩
  · rintro ⟨hc, b, s1, e, h⟩
    refine ⟨b, s1, ?_, h⟩
    rw [Mir.run_bind, Mir.run_lft, grP, if_pos hc]
    exact e
theorem tt_lft {o : Option α} {a : α} (e : o = some a) {k : α → μ β} : Tt s (Mir.lft o >>= k) P ↔ Tt s (k a) P := by
  subst e
  constructor
  · rintro ⟨b, s1, e, h⟩
    obtain ⟨u, e1, e2⟩ := run_of_lft e
    cases e1
    exact ⟨b, s1, e2, h⟩
  · rintro ⟨b, s1, e, h⟩
    refine ⟨b, s1, ?_, h⟩
    rw [Mir.run_bind, Mir.run_lft]
    exact e
theorem tt_bnd {a : α} {k : α → μ β} : Tt s (bnd a k) P ↔ Tt s (k a) P := Iff.rfl
theorem tt_ite {c : Prop} [Decidable c] {x y : μ β} : Tt s (if c then x else y) P ↔ if c then Tt s x P else Tt s y P := by
  by_cases h : c
  · rw [if_pos h, if_pos h]
  · rw [if_neg h, if_neg h]
theorem Tt.mono {m : μ β} {P' : β → τ → Prop} (h : Tt s m P) (i : ∀ a s1, P a s1 → P' a s1) : Tt s m P' := by
  obtain ⟨a, s1, e, q⟩ := h
  exact ⟨a, s1, e, i a s1 q⟩
theorem Tt.then {m : μ α} {k : α → μ β} {P' : α → τ → Prop} (h : Tt s m P') (i : ∀ a s1, P' a s1 → Tt s1 (k a) P) : Tt s (m >>= k) P := tt_bind.mpr (h.mono i)
theorem Tt.lft {o : Option α} {Q : α → Prop} (h : ∃ a, o = some a ∧ Q a) {k : α → μ β} (i : ∀ a, Q a → Tt s (k a) P) : Tt s (Mir.lft o >>= k) P := by
  obtain ⟨a, e, q⟩ := h
  exact (tt_lft e).mpr (i a q)
theorem Tt.pos {c : Prop} [Decidable c] {x y : μ β} (h : c) (i : Tt s x P) : Tt s (if c then x else y) P := by rw [if_pos h]; exact i
theorem Tt.neg {c : Prop} [Decidable c] {x y : μ β} (h : ¬ c) (i : Tt s y P) : Tt s (if c then x else y) P := by rw [if_neg h]; exact i
/-- a pure one -/
theorem tt_eq {m : Option α} {v : α} (h : Tt () m (fun a _ => a = v)) : m = some v := by
  obtain ⟨a, s1, e, rfl⟩ := h
  cases m with
  | none => cases e
  | some b => cases e; rfl
theorem tt_ex {m : Option α} {Q : α → Prop} (h : Tt () m (fun a _ => Q a)) : ∃ a, m = some a ∧ Q a := by
  obtain ⟨a, s1, e, q⟩ := h
  cases m with
  | none => cases e
  | some b => cases e; exact ⟨_, rfl, q⟩
theorem tt_of {m : Option α} {v : α} {P : α → Unit → Prop} (e : m = some v) (h : P v ()) : Tt () m P := by
  subst e
  exact ⟨v, (), rfl, h⟩

/-! ### loops -/
/-- while: I holds at the head, nu goes down, R behind -/
theorem Tt.wh {c : ζ → (Bool → μ ζ) → μ ζ} {b : ζ → μ ζ} {R : ζ → τ → Prop} (I : ζ → τ → Prop) (nu : ζ → Nat)
    (h : ∀ st s (k : Bool → μ ζ) (P : ζ → τ → Prop), I st s → (∀ t s1, (t = true → Tt s1 (b st) fun st' s2 => I st' s2 ∧ nu st' < nu st) → (t = false → R st s1) → Tt s1 (k t) P) → Tt s (c st k) P) :
    ∀ (n : Nat) (st : ζ) (s : τ), I st s → nu st < n → Tt s (whS n c b st) R
  | 0, st, s, _, hn => absurd hn (Nat.not_lt_zero _)
  | n + 1, st, s, hI, hn => by
    refine h st s _ _ hI fun t s1 h1 h2 => ?_
    cases t with
    | true =>
      refine Tt.pos rfl ((h1 rfl).then fun st' s2 q => ?_)
      exact Tt.wh I nu h n st' s2 q.1 (by omega)
    | false => exact Tt.neg (by simp) (tt_pure.mpr (h2 rfl))
theorem Tt.whC {c : ζ → (Bool → μ (Ctl ρ ζ)) → μ (Ctl ρ ζ)} {b : ζ → μ (Ctl ρ ζ)} {R : Ctl ρ ζ → τ → Prop} (I : ζ → τ → Prop) (nu : ζ → Nat)
    (h : ∀ st s (k : Bool → μ (Ctl ρ ζ)) (P : Ctl ρ ζ → τ → Prop), I st s → (∀ t s1, (t = true → Tt s1 (b st) fun o s2 => match o with | .go st' => I st' s2 ∧ nu st' < nu st | x => R x s2) → (t = false → R (.go st) s1) → Tt s1 (k t) P) → Tt s (c st k) P) :
    ∀ (n : Nat) (st : ζ) (s : τ), I st s → nu st < n → Tt s (Wk.whC n c b st) R
  | 0, st, s, _, hn => absurd hn (Nat.not_lt_zero _)
  | n + 1, st, s, hI, hn => by
    refine h st s _ _ hI fun t s1 h1 h2 => ?_
    cases t with
    | true =>
      refine Tt.pos rfl ((h1 rfl).then fun o s2 q => ?_)
      cases o with
      | go st' => exact Tt.whC I nu h n st' s2 q.1 (by have := q.2; omega)
      | brk x => exact tt_pure.mpr q
      | ret x => exact tt_pure.mpr q
    | false => exact Tt.neg (by simp) (tt_pure.mpr (h2 rfl))
/-- while, what goes down stands beside -/
theorem Tt.whI {c : ζ → (Bool → μ ζ) → μ ζ} {b : ζ → μ ζ} {R : ζ → τ → Prop} (I : Nat → ζ → τ → Prop)
    (h : ∀ j st s (k : Bool → μ ζ) (P : ζ → τ → Prop), I j st s → (∀ t s1, (t = true → Tt s1 (b st) fun st' s2 => ∃ j', j' < j ∧ I j' st' s2) → (t = false → R st s1) → Tt s1 (k t) P) → Tt s (c st k) P) :
    ∀ (n j : Nat) (st : ζ) (s : τ), I j st s → j < n → Tt s (whS n c b st) R
  | 0, j, st, s, _, hn => absurd hn (Nat.not_lt_zero _)
  | n + 1, j, st, s, hI, hn => by
    refine h j st s _ _ hI fun t s1 h1 h2 => ?_
    cases t with
    | true =>
      refine Tt.pos rfl ((h1 rfl).then fun st' s2 ⟨j', q1, q2⟩ => ?_)
      exact Tt.whI I h n j' st' s2 q2 (by omega)
    | false => exact Tt.neg (by simp) (tt_pure.mpr (h2 rfl))
/-- for: I tells what is left -/
theorem Tt.lp {f : α → ζ → μ ζ} (I : List α → ζ → τ → Prop) (h : ∀ x xs st s, I (x :: xs) st s → Tt s (f x st) (I xs)) : ∀ (xs : List α) (st : ζ) (s : τ), I xs st s → Tt s (lpS xs f st) (I [])
  | [], st, s, hI => tt_pure.mpr hI
  | x :: xs, st, s, hI => (h x xs st s hI).then fun st' s1 q => Tt.lp I h xs st' s1 q
theorem Tt.lpC {f : α → ζ → μ (Ctl ρ ζ)} {R : Ctl ρ ζ → τ → Prop} (I : List α → ζ → τ → Prop) (h : ∀ x xs st s, I (x :: xs) st s → Tt s (f x st) fun o s1 => match o with | .go st' => I xs st' s1 | y => R y s1)
    (h0 : ∀ st s, I [] st s → R (.go st) s) : ∀ (xs : List α) (st : ζ) (s : τ), I xs st s → Tt s (Wk.lpC xs f st) R
  | [], st, s, hI => tt_pure.mpr (h0 st s hI)
  | x :: xs, st, s, hI => (h x xs st s hI).then fun o s1 q => by
    cases o with
    | go st' => exact Tt.lpC I h h0 xs st' s1 q
    | brk y => exact tt_pure.mpr q
    | ret y => exact tt_pure.mpr q
theorem rng_step {lo hi : Int} (h : lo < hi) : rng lo hi = lo :: rng (lo + 1) hi := by
  unfold rng
  have e : (hi - lo).toNat = (hi - (lo + 1)).toNat + 1 := by omega
  rw [e, List.range_succ_eq_map, List.map_cons, List.map_map]
  congr 1
  · simp
  · apply List.map_congr_left
    intro k _
    simp only [Function.comp_apply]
    omega
theorem rng_no {lo hi : Int} (h : hi ≤ lo) : rng lo hi = [] := by
  unfold rng
  have e : (hi - lo).toNat = 0 := by omega
  rw [e]; rfl
theorem rng_len (lo hi : Int) : (rng lo hi).length = (hi - lo).toNat := by unfold rng; rw [List.length_map, List.length_range]
theorem mem_rng {lo hi x : Int} : x ∈ rng lo hi ↔ lo ≤ x ∧ x < hi := by
  unfold rng
  rw [List.mem_map]
  constructor
  · rintro ⟨k, hk, rfl⟩
    have := List.mem_range.mp hk
    omega
  · intro h
    exact ⟨(x - lo).toNat, List.mem_range.mpr (by omega), by omega⟩
/-- for x in range: I tells the place -/
theorem Tt.rg {f : Int → ζ → μ ζ} {hi : Int} (I : Int → ζ → τ → Prop) (h : ∀ x st s, x < hi → I x st s → Tt s (f x st) (I (x + 1))) : ∀ (n : Nat) (lo : Int) (st : ζ) (s : τ), lo + n = hi → I lo st s → Tt s (lpS (rng lo hi) f st) (I hi)
  | 0, lo, st, s, e, hI => by
    have : lo = hi := by omega
    subst this
    rw [rng_no (Int.le_refl _)]
    exact tt_pure.mpr hI
  | n + 1, lo, st, s, e, hI => by
    rw [rng_step (by omega)]
    exact (h lo st s (by omega) hI).then fun st' s1 q => Tt.rg I h n (lo + 1) st' s1 (by omega) q
theorem Tt.rgC {f : Int → ζ → μ (Ctl ρ ζ)} {hi : Int} {R : Ctl ρ ζ → τ → Prop} (I : Int → ζ → τ → Prop) (h : ∀ x st s, x < hi → I x st s → Tt s (f x st) fun o s1 => match o with | .go st' => I (x + 1) st' s1 | y => R y s1)
    (h0 : ∀ st s, I hi st s → R (.go st) s) : ∀ (n : Nat) (lo : Int) (st : ζ) (s : τ), lo + n = hi → I lo st s → Tt s (Wk.lpC (rng lo hi) f st) R
  | 0, lo, st, s, e, hI => by
    have : lo = hi := by omega
    subst this
    rw [rng_no (Int.le_refl _)]
    exact tt_pure.mpr (h0 _ _ hI)
  | n + 1, lo, st, s, e, hI => by
    rw [rng_step (by omega)]
    refine (h lo st s (by omega) hI).then fun o s1 q => ?_
    cases o with
    | go st' => exact Tt.rgC I h h0 n (lo + 1) st' s1 (by omega) q
    | brk y => exact tt_pure.mpr q
    | ret y => exact tt_pure.mpr q
/-- a comprehension: I tells what is left, what was found -/
theorem Tt.cmp {f : α → μ (Option γ)} {R : List γ → τ → Prop} (I : List α → List γ → τ → Prop) (h : ∀ x xs ys s, I (x :: xs) ys s → Tt s (f x) fun o s1 => I xs (ys ++ o.toList) s1) (h0 : ∀ ys s, I [] ys s → R ys s) : ∀ (xs : List α) (ys : List γ) (s : τ), I xs ys s → Tt s (Wk.cmp xs f) fun l s1 => R (ys ++ l) s1
  | [], ys, s, hI => tt_pure.mpr (by rw [List.append_nil]; exact h0 _ _ hI)
  | x :: xs, ys, s, hI => (h x xs ys s hI).then fun o s1 q => (Tt.cmp I h h0 xs _ s1 q).then fun l s2 r => tt_pure.mpr (by
      have e : ys ++ cns o l = ys ++ o.toList ++ l := by cases o <;> simp [cns]
      rw [e]; exact r)
/-- .. each item by itself -/
theorem tt_map {f : α → μ (Option γ)} {g : α → γ} : ∀ {xs : List α} {k : List γ → μ β}, (∀ x ∈ xs, ∀ s (Q : Option γ → τ → Prop), Q (some (g x)) s → Tt s (f x) Q) → (Tt s (k (xs.map g)) P → Tt s (Wk.cmp xs f >>= k) P) := by
  intro xs k h hk
  refine Tt.then (P' := fun l s1 => l = xs.map g ∧ s1 = s) ?_ (fun l s1 q => by rw [q.1, q.2]; exact hk)
  clear hk
  induction xs with
  | nil => exact tt_pure.mpr ⟨rfl, rfl⟩
  | cons x xs ih =>
    refine tt_bind.mpr (h x (List.mem_cons_self ..) s _ ?_)
    refine (ih fun y hy => h y (List.mem_cons_of_mem _ hy)).then fun l s1 q => tt_pure.mpr ⟨?_, q.2⟩
    rw [q.1]; rfl
theorem tt_filterMap {f : α → μ (Option γ)} {g : α → Option γ} : ∀ {xs : List α} {k : List γ → μ β}, (∀ x ∈ xs, ∀ s (Q : Option γ → τ → Prop), Q (g x) s → Tt s (f x) Q) → (Tt s (k (xs.filterMap g)) P → Tt s (Wk.cmp xs f >>= k) P) := by
  intro xs k h hk
  refine Tt.then (P' := fun l s1 => l = xs.filterMap g ∧ s1 = s) ?_ (fun l s1 q => by rw [q.1, q.2]; exact hk)
  clear hk
  induction xs with
  | nil => exact tt_pure.mpr ⟨rfl, rfl⟩
  | cons x xs ih =>
    refine tt_bind.mpr (h x (List.mem_cons_self ..) s _ ?_)
    refine (ih fun y hy => h y (List.mem_cons_of_mem _ hy)).then fun l s1 q => tt_pure.mpr ⟨?_, q.2⟩
    rw [q.1, List.filterMap_cons]
    cases g x <;> rfl
end
theorem lt_many {n : Nat} (h : n < 10 ^ 40) : n < many := by
  unfold many
  exact h
theorem sm_of {a : Int} (h1 : -10 ^ 4000 < a) (h2 : a < 10 ^ 4000) : Sm a := by
  refine Sm.of (n := 14000) ?_ (by decide) (by decide)
  have e : (10 : Nat) ^ 4000 ≤ 2 ^ 14000 := by decide +kernel
  have e2 : ((10 ^ 4000 : Nat) : Int) = 10 ^ 4000 := by push_cast; rfl
  generalize h3 : (10 : Nat) ^ 4000 = x at e e2
  generalize h4 : (2 : Nat) ^ 14000 = y at e ⊢
  rw [← e2] at h1 h2
  omega
theorem sm_lt {a : Int} {b : Nat} (h : a.natAbs ≤ b) (hb : b < 10 ^ 4000) : Sm a := by
  have e2 : ((10 ^ 4000 : Nat) : Int) = 10 ^ 4000 := by push_cast; rfl
  refine sm_of ?_ ?_ <;> rw [← e2] <;> generalize (10 : Nat) ^ 4000 = x at hb <;> omega
theorem dv_of {a : Int} (h0 : 0 < a) (h : a < 2 ^ 1000) : Dv a := by
  refine ⟨h0, ?_⟩
  refine PySem.Flt.log2_lt_of (by decide) (Nat.lt_trans (m := 2 ^ 1000) ?_ (by decide +kernel))
  have e2 : ((2 ^ 1000 : Nat) : Int) = 2 ^ 1000 := by push_cast; rfl
  rw [← e2] at h
  generalize (2 : Nat) ^ 1000 = x at h ⊢
  omega
end Wk
set_option Elab.async false
set_option maxRecDepth 100000
set_option maxHeartbeats 4000000
set_option linter.all false
/-! M1: what all laws need: sizes, ranges with a step, what repr takes, the pot's state -/
namespace Wk
open PySem L2
open PyProof.Rows hiding St
theorem sm_small {a : Int} (h : a.natAbs ≤ 10 ^ 30) : Sm a := sm_lt h (by decide)
theorem sm_nat {a : Nat} (h : a ≤ 10 ^ 30) : Sm (a : Int) := sm_small (by omega)
theorem sm_pow {a k : Nat} (h : a ≤ 10 ^ k) (hk : k ≤ 1000) : Sm (a : Int) := sm_lt (b := 10 ^ 1000) (by rw [Int.natAbs_natCast]; exact Nat.le_trans h (Nat.pow_le_pow_right (by decide) hk)) (by decide +kernel)
theorem dv_nat {p : Nat} (hp : 0 < p) (hq : p < 10 ^ 40) : Dv (p : Int) := by
  refine dv_of (by omega) (Int.lt_trans (b := 10 ^ 40) (by omega) (by decide))
theorem dec_nat {a b : Nat} : decide ((a : Int) = (b : Int)) = decide (a = b) := decide_eq_decide.mpr (by omega)
theorem atI_nat {α : Type} {xs : List α} {i : Nat} (h : i < xs.length) : atI xs (i : Int) = xs[i]? := by
  unfold atI ixN
  rw [if_pos (by omega), if_pos (by omega)]
  simp
theorem atI_last {α : Type} {xs : List α} {n : Nat} (h : xs.length = n + 1) : atI xs (-1) = xs[n]? := by
  unfold atI ixN
  rw [if_neg (by decide), if_pos (by omega), h]
  show xs[(-1 + ((n + 1 : Nat) : Int)).toNat]? = _
  congr 1
  omega
theorem rs_pos {a b c : Int} (hc : 0 < c) : Builtin.Range.rangeSize a b c = if a < b then (b - a - 1) / c + 1 else 0 := by
  unfold Builtin.Range.rangeSize
  rw [if_pos (by omega)]
theorem mem_rng3 {a b c x : Int} (hc : 0 < c) : x ∈ rng3 a b c ↔ ∃ k : Nat, x = a + (k : Int) * c ∧ x < b := by
  unfold rng3
  rw [rs_pos hc, List.mem_map]
  constructor
  · rintro ⟨k, hk, rfl⟩
    refine ⟨k, rfl, ?_⟩
    have hk := List.mem_range.mp hk
    by_cases h : a < b
    · rw [if_pos h] at hk
      have : (k : Int) ≤ (b - a - 1) / c := by omega
      have := (Int.le_ediv_iff_mul_le hc).mp this
      omega
    · rw [if_neg h] at hk
      simp at hk
  · rintro ⟨k, rfl, hx⟩
    have h0 : 0 ≤ (k : Int) * c := Int.mul_nonneg (by omega) (by omega)
    refine ⟨k, List.mem_range.mpr ?_, rfl⟩
    rw [if_pos (by omega)]
    have : (k : Int) ≤ (b - a - 1) / c := (Int.le_ediv_iff_mul_le hc).mpr (by omega)
    omega
theorem rg3_ok {a b c : Int} (hc : 0 < c) (hc2 : c < 1000000) (ha : 0 ≤ a) (ha2 : a < 2 ^ 60) (hb : 0 ≤ b) (hb2 : b < 2 ^ 60) : Rg3 a b c := by
  have hq : 0 ≤ (b - a - 1) / c ∨ ¬ a < b := by
    by_cases h : a < b
    · exact .inl (Int.ediv_nonneg (by omega) (by omega))
    · exact .inr h
  have hq2 : (b - a - 1) / c ≤ 2 ^ 60 ∨ ¬ a < b := by
    by_cases h : a < b
    · refine .inl (Int.le_trans (Int.ediv_le_self _ (by omega)) (by omega))
    · exact .inr h
  refine ⟨by omega, by omega, ?_, ?_⟩
  · unfold Builtin.Range.small
    rw [rs_pos hc]
    simp only [Builtin.Range.rangeFitsLong, Bool.and_eq_true, Bool.or_eq_true, decide_eq_true_eq, beq_iff_eq, show c > 0 from hc, if_true]
    generalize (b - a - 1) / c = q at *
    split <;> omega
  · rw [rs_pos hc]
    generalize (b - a - 1) / c = q at *
    split <;> omega
def Shp (D B : Nat) (d : PyData) : Prop := d.depth ≤ D ∧ wt d ≤ B
theorem shp_int {i : Int} (h : i.natAbs < 10 ^ 40) : Shp 0 50 (.int i) := ⟨by simp only [PyData.depth]; exact Nat.le_refl _, by simp only [wt]; rw [if_pos h]; exact Nat.le_refl _⟩
theorem shp_big {i : Int} (h : i.natAbs.log2 < 12900) : Shp 0 13000 (.int i) := ⟨by simp only [PyData.depth]; exact Nat.le_refl _, by
  simp only [wt]
  split
  · decide
  · exact Nat.le_refl _⟩
theorem shp_all {D B : Nat} : ∀ {l : List PyData}, (∀ x ∈ l, Shp D B x) → PyData.depthAll l ≤ D ∧ wts l ≤ l.length * (B + 2)
  | [], _ => ⟨by simp only [PyData.depthAll]; omega, by simp only [wts]; omega⟩
  | x :: l, h => by
    obtain ⟨h1, h2⟩ := h x (List.mem_cons_self ..)
    obtain ⟨h3, h4⟩ := shp_all (l := l) fun y hy => h y (List.mem_cons_of_mem _ hy)
    refine ⟨by simp only [PyData.depthAll]; omega, ?_⟩
    simp only [wts]
    rw [List.length_cons, Nat.add_mul]
    omega
theorem shp_list {D B n : Nat} {l : List PyData} (hl : l.length ≤ n) (h : ∀ x ∈ l, Shp D B x) : Shp (D + 1) (n * (B + 2) + 3) (.list l) := by
  obtain ⟨h1, h2⟩ := shp_all h
  have := Nat.mul_le_mul_right (B + 2) hl
  exact ⟨by simp only [PyData.depth]; omega, by simp only [wt]; omega⟩
theorem shp_tup {D B n : Nat} {l : List PyData} (hl : l.length ≤ n) (h : ∀ x ∈ l, Shp D B x) : Shp (D + 1) (n * (B + 2) + 3) (.tuple l) := by
  obtain ⟨h1, h2⟩ := shp_all h
  have := Nat.mul_le_mul_right (B + 2) hl
  exact ⟨by simp only [PyData.depth]; omega, by simp only [wt]; omega⟩
theorem Shp.le {D B D' B' : Nat} {d : PyData} (h : Shp D B d) (h1 : D ≤ D') (h2 : B ≤ B') : Shp D' B' d := ⟨Nat.le_trans h.1 h1, Nat.le_trans h.2 h2⟩
theorem Shp.ok {D B : Nat} {d : PyData} (h : Shp D B d) (h1 : D ≤ 50) (h2 : B ≤ 16000000) : OkD d := ⟨Nat.le_trans h.1 h1, Nat.le_trans h.2 h2⟩
theorem cut_head {α : Type} (xs : List α) (n : Nat) : cut xs none (some (n : Int)) = xs.take n := by
  unfold cut HT.sIx
  simp only [List.drop_zero, Nat.sub_zero]
  rw [if_neg (by omega), Int.toNat_natCast]
  by_cases h : n ≤ xs.length
  · rw [Nat.min_eq_left h]
  · rw [Nat.min_eq_right (by omega), List.take_of_length_le (Nat.le_refl _), List.take_of_length_le (by omega)]
theorem bits_sm {i : Int} (h : Builtin.Int.intBits i ≤ 1048576) : i.natAbs.log2 ≤ 1048576 := by
  unfold Builtin.Int.intBits at h
  split at h
  · rename_i z
    have : i = 0 := by simpa using z
    subst this; decide
  · omega
theorem abs_if (i : Int) : (if i < 0 then -i else i) = (i.natAbs : Int) := by split <;> omega
/-- a lot of values whose sizes are small -/
theorem shp_bool {b : Bool} : Shp 0 50 (.bool b) := ⟨by simp only [PyData.depth]; exact Nat.le_refl _, by simp only [wt]; decide⟩
theorem shp_none : Shp 0 50 .none := ⟨by simp only [PyData.depth]; exact Nat.le_refl _, by simp only [wt]; decide⟩
theorem Shp.l1 {D B : Nat} {a : PyData} (h : Shp D B a) : ∀ x ∈ [a], Shp D B x := fun x hx => by rw [List.mem_singleton.mp hx]; exact h
theorem Shp.lc {D B : Nat} {a : PyData} {l : List PyData} (h : Shp D B a) (t : ∀ x ∈ l, Shp D B x) : ∀ x ∈ a :: l, Shp D B x := fun x hx => by
  rcases List.mem_cons.mp hx with e | e
  · rw [e]; exact h
  · exact t x e
theorem shp_nil {D B : Nat} : ∀ x ∈ ([] : List PyData), Shp D B x := fun x hx => nomatch hx
theorem shp_map {α : Type} {D B : Nat} {f : α → PyData} {l : List α} (h : ∀ a ∈ l, Shp D B (f a)) : ∀ x ∈ l.map f, Shp D B x := fun x hx => by
  obtain ⟨a, ha, rfl⟩ := List.mem_map.mp hx
  exact h a ha
/-- the pot, b draws may follow -/
structure Pot (s : PotT) (b : Nat) : Prop where
  g : ∀ c ∈ s.great, 0 ≤ c
  l : s.great.length ≤ 100
  m0 : 0 ≤ s.mix
  m1 : s.mix < 2 ^ 40
  t0 : 0 ≤ s.turn
  t1 : s.turn + b ≤ 10 ^ 9
theorem Pot.le {s : PotT} {b c : Nat} (h : Pot s b) (hc : c ≤ b) : Pot s c := ⟨h.g, h.l, h.m0, h.m1, h.t0, by have := h.t1; omega⟩
/-- ascending lists with the same items are one -/
theorem asc_eq : ∀ {l r : List Int}, l.Pairwise (· < ·) → r.Pairwise (· < ·) → (∀ x, x ∈ l ↔ x ∈ r) → l = r
  | [], [], _, _, _ => rfl
  | [], y :: r, _, _, h => absurd ((h y).mpr (List.mem_cons_self ..)) (by simp)
  | x :: l, [], _, _, h => absurd ((h x).mp (List.mem_cons_self ..)) (by simp)
  | x :: l, y :: r, h1, h2, h => by
    have a1 := List.pairwise_cons.mp h1
    have a2 := List.pairwise_cons.mp h2
    have e : x = y := by
      rcases List.mem_cons.mp ((h x).mp (List.mem_cons_self ..)) with z | z
      · exact z
      · rcases List.mem_cons.mp ((h y).mpr (List.mem_cons_self ..)) with w | w
        · exact w.symm
        · have b1 := a2.1 x z
          have b2 := a1.1 y w
          omega
    subst e
    congr 1
    refine asc_eq a1.2 a2.2 fun z => ?_
    constructor
    · intro hz
      rcases List.mem_cons.mp ((h z).mp (List.mem_cons_of_mem _ hz)) with w | w
      · have := a1.1 z hz
        rw [w] at this; omega
      · exact w
    · intro hz
      rcases List.mem_cons.mp ((h z).mpr (List.mem_cons_of_mem _ hz)) with w | w
      · have := a2.1 z hz
        rw [w] at this; omega
      · exact w
theorem rng3_asc {a b c : Int} (hc : 0 < c) : (rng3 a b c).Pairwise (· < ·) := by
  unfold rng3
  rw [List.pairwise_map]
  refine List.Pairwise.imp ?_ List.pairwise_lt_range
  intro i j h
  have : (i : Int) * c < (j : Int) * c := Int.mul_lt_mul_of_pos_right (by omega) hc
  omega
theorem rng_asc {a b : Int} : (rng a b).Pairwise (· < ·) := by
  unfold rng
  rw [List.pairwise_map]
  refine List.Pairwise.imp ?_ List.pairwise_lt_range
  intro i j h
  omega
end Wk
set_option Elab.async false
set_option maxRecDepth 100000
set_option maxHeartbeats 4000000
set_option linter.all false
/-! M2: steps that go by themselves -/
namespace Wk
open PySem L2
open PyProof.Rows hiding St
theorem dv_s {a : Int} (h0 : 0 < a) (h : a < 10 ^ 40) : Dv a := dv_of h0 (Int.lt_trans (b := 10 ^ 40) h (by decide))
theorem least {P : Nat → Prop} [DecidablePred P] : ∀ {k : Nat}, P k → ∃ j, j ≤ k ∧ P j ∧ ∀ i, i < j → ¬ P i
  | 0, h => ⟨0, Nat.le_refl _, h, fun i hi => absurd hi (Nat.not_lt_zero i)⟩
  | k + 1, h => by
    by_cases z : ∃ i, i ≤ k ∧ P i
    · obtain ⟨i, h1, h2⟩ := z
      obtain ⟨j, h3, h4, h5⟩ := least (k := i) h2
      exact ⟨j, by omega, h4, h5⟩
    · exact ⟨k + 1, Nat.le_refl _, h, fun i hi hp => z ⟨i, by omega, hp⟩⟩
/-- no more unlike numbers than there are -/
theorem nd_len : ∀ {l r : List Nat}, l.Nodup → (∀ x ∈ l, x ∈ r) → l.length ≤ r.length
  | [], r, _, _ => Nat.zero_le _
  | x :: l, r, hl, h => by
    have a := List.nodup_cons.mp hl
    have hx := h x (List.mem_cons_self ..)
    have e := nd_len (l := l) (r := r.erase x) a.2 fun y hy => (List.mem_erase_of_ne (by rintro rfl; exact a.1 hy)).mpr (h y (List.mem_cons_of_mem _ hy))
    rw [List.length_erase_of_mem hx] at e
    have := List.length_pos_of_mem hx
    rw [List.length_cons]; omega
/-- unlike values below n -/
theorem few_below {f : Nat → Nat} {k n : Nat} (h : ∀ i, i < k → f i < n) (hu : ∀ i j, i < j → j < k → f i ≠ f j) : k ≤ n := by
  have h1 : ((List.range k).map f).Nodup := by
    rw [List.nodup_iff_pairwise_ne, List.pairwise_map]
    refine List.Pairwise.imp_of_mem ?_ List.pairwise_lt_range
    intro a b ha hb hab
    exact hu a b hab (List.mem_range.mp hb)
  have := nd_len (r := List.range n) h1 fun x hx => by
    obtain ⟨i, hi, rfl⟩ := List.mem_map.mp hx
    exact List.mem_range.mpr (h i (List.mem_range.mp hi))
  rw [List.length_map, List.length_range, List.length_range] at this
  exact this
end Wk
set_option Elab.async false
set_option maxRecDepth 100000
set_option maxHeartbeats 4000000
set_option linter.all false
/-! W17: sorted(set(xs)), xs a list of ints -/
namespace Wk
open PySem PySem.Spec L2
open PyProof.Rows hiding St
/-- each but once -/
def dd : List Int → List Int
  | [] => []
  | x :: r => if x ∈ dd r then dd r else x :: dd r
theorem dd_mem : ∀ {l : List Int} {k : Int}, k ∈ dd l ↔ k ∈ l
  | [], k => Iff.rfl
  | x :: r, k => by
    unfold dd
    split
    · rename_i h
      rw [dd_mem, List.mem_cons]
      constructor
      · exact .inr
      · rintro (rfl | q)
        · exact dd_mem.mp h
        · exact q
    · rw [List.mem_cons, List.mem_cons, dd_mem]
theorem dd_nodup : ∀ l : List Int, (dd l).Nodup
  | [] => List.nodup_nil
  | x :: r => by
    unfold dd
    split
    · exact dd_nodup r
    · rename_i h
      exact List.nodup_cons.mpr ⟨h, dd_nodup r⟩
theorem nodup_len {a b : List Int} (ha : a.Nodup) (hb : b.Nodup) (h : ∀ k, k ∈ a ↔ k ∈ b) : a.length = b.length :=
  Nat.le_antisymm (ha.length_le_of_subset fun k hk => (h k).mp hk) (hb.length_le_of_subset fun k hk => (h k).mpr hk)
theorem srt_dd {ns l : List Int} (h1 : ns.Pairwise (· < ·)) (h2 : ∀ k, k ∈ ns ↔ k ∈ l) : ns = srt (dd l) := by
  refine asc_eq h1 ?_ fun k => by rw [h2, (srt_perm _).mem_iff, dd_mem]
  have hn : (srt (dd l)).Nodup := (srt_perm _).nodup_iff.mpr (dd_nodup l)
  exact (List.Pairwise.and (srt_sorted (dd l)) hn).imp fun {a b} h => by have h1 : a ≤ b := h.1; have h2 : a ≠ b := h.2; omega
theorem SetR.card {w : World} {h : Heap} {a : Addr} {l : List Int} {n : Nat} (R : SetR w h a (fun j => decide (j ∈ l)) n) : n = (dd l).length := by
  obtain ⟨o, es, ep, t, _, _, _, _, nd, hm, _, _, hn, _⟩ := R
  rw [← hn, ← nodup_len nd (dd_nodup l) fun k => by rw [← hm, dd_mem, decide_eq_true_iff], List.length_map, Array.length_toList]
def rSetI (K : PySem.W.Frag) (w : World) : List V → Hp → VK → Prop := fun vs H Q => ∃ (a : Addr) (ns : List Int), vs = [V.ref a] ∧ SqL K H a (ns.map V.int) ∧ ns.length + 1 < scanBound ∧
  ∀ p, H p = none → Q (.ref p) (upd H p (SetO w p (fun j => decide (j ∈ ns)) (dd ns).length))
section
variable {X : Cx}
theorem cr_setI (hc : X.calm = true) : CallR X (.type "set") (rSetI X.K X.w) := by
  intro pins s σ H xs us Q I r h
  obtain ⟨a, ns, rfl, hs, hb, q⟩ := h
  obtain ⟨its, rv, hl, hz⟩ := I.list hs
  rw [Vals.ref1 r]
  refine set_ints (I.ok.hd hc) hl.isList rv.ints hb fun h' tk c R hcn hk => ?_
  have e := SetR.card R
  subst e
  exact ⟨.ref _, upd H s.heap.objs.size (SetO X.w s.heap.objs.size (fun j => decide (j ∈ ns)) (dd ns).length), I.laid (t' := tk) (fun b u z => hk b u z) (Nat.le_refl _) (setO_new R), rfl, q _ (I.hok.fresh (Nat.le_refl _))⟩
theorem k_setI (K : PySem.W.Frag) (hc : X.calm = true := by rfl) (h : X.K = K := by rfl) : CallR X (.type "set") (rSetI K X.w) := h ▸ cr_setI hc
theorem k_srtS (hc : X.calm = true := by rfl) : CallR X (.builtin "sorted") (rSortedSet X.w) := cr_sortedSet hc
end
section
variable {μ : Type → Type} {τ : Type} [Mir μ τ] {β : Type} {p : Pt τ} {σ : St} {S H : Hp} {te : TE} {K : PySem.W.Frag} {w : World}
theorem l_srtSet {m : (List Int → μ β) → μ β} (h : EvR p te σ S H m (aAll rI)) : EvL p (tCB (rSortedSet w) (tCons (tCB (rSetI K w) (tCons te tNil)) tNil)) σ S H (fun k => m fun xs => Mir.lft (grd (xs.length < 4000 ∧ (dd xs).length < 64)) >>= fun _ => k (srt (dd xs))) (aAll rI) := fun S1 H1 s g ps k z hm Q q =>
  h S1 H1 s g ps _ z hm _ fun xs x vs S2 H2 s2 g2 p2 e2 m2 r2 hm2 => by
    obtain ⟨_, eg, hm3⟩ := run_of_lft hm2
    have hg := grd_of eg
    refine ⟨x, xs, rfl, .of (by rw [e2, All.ints r2]), by have := hg.1; unfold scanBound; omega, fun y hy => ?_⟩
    have g3 : Gm p.M S2 H2 S2 (upd H2 y (SetO w y (fun j => decide (j ∈ xs)) (dd xs).length)) := Gm.own g2.i hy
    refine ⟨y, _, _, rfl, upd_same, hg.2, fun ns u h1 h2 h3 hu => ?_⟩
    have e : ns = srt (dd xs) := srt_dd h1 fun k => by rw [h2, decide_eq_true_iff]
    subst e
    have g4 := (g2.tr g3)
    exact q (srt (dd xs)) u _ S2 _ s2 (g4.tr (Gm.own g3.i hu)) ((p2.go (Gm.own g2.i hy)).go (Gm.own g3.i hu)) (back_none g4 hu) upd_same (g3.i.no hu) (new_nM (p2.go (Gm.own g2.i hy)) hu) (All.ofInts _) hm3
end
section
variable {X : Cx} {o e : Expr} {es : List Expr} {to : TE} {t : TA} {name : Str} {apos cpos : Pos} {T id : String} {r : V → List V → Hp → VK → Prop}
/-- a method's call, the frame told ahead (for comprehensions) -/
theorem pe_bmK (K : PySem.W.Frag) (pa : PlainAttrs T) (slot : Slot T name id) (hty : typeOf (.builtin id) = pure (.type "method_descriptor")) (hm : MtR X id r) (ho : PE X o to) (ha : PA X (e :: es) t) (h : X.K = K := by rfl)
    (h1 : attributeBase o name X.env (eval o X.env) = eval o X.env := by rfl)
    (h2 : ((backTo cpos (starEach (e :: es) X.env)).all (fun x => !x.1) && (backToKw cpos (keywordEach [] X.env)).all (fun x => x.1.isSome) && decide ((e :: es).length + ([] : List Keyword).length + (if ([] : List Keyword).isEmpty then 0 else 1) < 30)) = true := by rfl)
    (h3 : (apos.endLine == cpos.line) = true := by rfl) (h4 : starEach (e :: es) X.env = (false, eval e X.env) :: starEach es X.env := by rfl) (h5 : (backTo cpos (starEach es X.env)).any (·.1) = false := by rfl) :
    PE X (.Call (.Attribute o name apos) (e :: es) [] cpos) (tBM K T r to t) := h ▸ pe_bm pa slot hty hm ho ha h1 h2 h3 h4 h5
end
end Wk
set_option Elab.async false
set_option maxRecDepth 100000
set_option maxHeartbeats 4000000
set_option linter.all false
namespace Wk
open PySem L2
open PyProof.Rows hiding St
def top (i : Nat) : Stmt := PySem.Challenge.pw_divisorways_k92_whole_roots_and_counts.main.body.getD i (.Pass ⟨0, 0, 0, 0⟩)
abbrev potHd : Addr → Int → Int → HO := hdL
abbrev potPt (i : PotI) : Pt PotT := potOf potHd i
structure Tx (mg : Str → Option Value) (base : Heap) : Prop where
  nd : base.NoDigits
  n_abs : mg "abs" = none
  n_all : mg "all" = none
  n_bool : mg "bool" = none
  n_int : mg "int" = none
  n_isinstance : mg "isinstance" = none
  n_len : mg "len" = none
  n_list : mg "list" = none
  n_max : mg "max" = none
  n_range : mg "range" = none
  n_repr : mg "repr" = none
  n_set : mg "set" = none
  n_sorted : mg "sorted" = none
  n_str : mg "str" = none
  n_sum : mg "sum" = none
  n_tuple : mg "tuple" = none
  n_zip : mg "zip" = none
  c_MAX_LISTED : ∃ t, mg "MAX_LISTED" = some (.int 500 t)
abbrev t_taken_out : Stmt := top 2
theorem sc_taken_out : FnScope ["number", "p", "often"] ["number", "p"] (defScope t_taken_out) := ⟨rfl, rfl, rfl, by decide +kernel, rfl, by decide +kernel, by decide +kernel⟩
@[irreducible] noncomputable def m_taken_out (p_number : Int) (p_p : Int) : Option (Int × Int) :=
bnd (0 : Int) fun often1 =>
(whS many (fun (st11 : Int × Int) k => Mir.lft (grd (0 < p_p)) >>= fun _ => k (decide ((st11.1 % p_p) = (0 : Int)))) (fun (st11 : Int × Int) =>
bnd (st11.2 + (1 : Int)) fun often42 =>
Mir.lft (grd (Dv p_p)) >>= fun _ => bnd (st11.1 / p_p) fun number52 =>
pure (number52, often42)) (p_number, often1)) >>= fun (st11 : Int × Int) =>
bnd (st11.2, st11.1) fun r76 => pure r76
noncomputable abbrev fm_taken_out : (Int × Int) → Option (Int × Int) := fun (a0, a1) => m_taken_out a0 a1
abbrev sp_taken_out (K : PySem.W.Frag) : Sp := spV F0 fm_taken_out (fun _ => (aCons rI (aOne rI))) (rT K (aCons rI (aOne rI)))
section
variable {P : Program} {w : World} {K : PySem.W.Frag} {mg : Str → Option Value} {base : Heap}
theorem g_taken_out (T : Tx mg base)  {f : Addr} {fd : FuncData} (F : Fun K "taken_out" "taken_out" t_taken_out f fd) : FnG P w K mg base CX0 1 f fd ["number", "p"] (sp_taken_out K) := by
  refine okG0 F sc_taken_out (fun vs H Q E h => ?_) (fun cdv A outer s0_ H0 vs Q E hr gd h => ?_)
  · obtain ⟨_, _, _, _, _, _, _, _, ⟨_, _, rfl, _, ⟨_, rfl, _⟩⟩, _⟩ := h
    rfl
  · obtain ⟨_, a, S0, s0, r, s', e0, p0, ⟨_, _, rfl, rfl, ⟨_, rfl, rfl⟩⟩, hm0, fin0⟩ := h
    obtain ⟨p_number, p_p⟩ := a
    have fin : ∀ v {H' : Hp}, (∃ S', Gm (pt0).M S0 H0 S' H' ∧ PotAt pt0 s' S' H' ∧ (rT K (aCons rI (aOne rI))) r v S') → Q v H' := fun v {H'} ⟨S', h1, h2, h3⟩ => fin0 v S' H' h1 h2 h3
    have w0 : Wd pt0 S0 H0 S0 H0 [] := Wd.start e0
    have hm0 : Mir.run (m_taken_out p_number p_p) s0 = some (r, s') := hm0
    unfold m_taken_out at hm0
    have sc := sc_taken_out
    refine ⟨_, pss_cons (ps_set (i := 2) sc.nd rfl (by first | exact Or.inl rfl | exact Or.inr rfl) (pe_int)) (pss_cons (ps_while PassesOwn.never (pt_cmpR op_eq (pe_op op_mod (pv 0) (pv 1)) (pe_int) (nomark _)) (pss_cons (ps_par (i := 2) (j := 0) rfl sc.nd rfl rfl (by decide) rfl rfl (pa_cons (pe_op op_add (pv 2) (pe_int)) (pa_cons (pe_op op_fdivW (pv 0) (pv 1)) (pa_nil))) (by rfl)) (pss_nil))) (pss_cons (ps_ret (pe_tup (pa_cons (pv 2) (pa_cons (pv 0) (pa_nil))))) (pss_nil))), ?_⟩
    refine q_set (fun v => [some (.int p_number), some (.int p_p), some v]) (fun _ => rfl) w0 p0 e_cI hm0 ?_
    intro often1 voften9 S2 H3 s4 w5 p6 g8 roften10 hm7
    cases (show voften9 = .int often1 from roften10)
    refine q_wh (p := pt0) (fun st11 σ S' H' s' => σ = [some (.int st11.1), some (.int p_p), some (.int st11.2)] ∧ Wd pt0 S0 H0 S' H' [] ∧ PotAt pt0 s' S' H' ∧ Ex S2 S') ⟨rfl, w5, p6, Ex.rf⟩ hm7 ?_ ?_ ?_ ?_
    · rintro st11 _ S17 H18 s19 ⟨rfl, w14, p15, eb16⟩
      exact ⟨p15, w14.i, (t_Test (e_eq (e_mod (e_var (R := rI) rfl rfl) (e_var (R := rI) rfl rfl)) e_cI))⟩
    · rintro st11 _ S23 H24 s25 S26 H27 s28 ⟨rfl, w20, p21, eb22⟩ g29 p30
      exact ⟨rfl, w20.go g29, p30, eb22.tr g29.s⟩
    · rintro st11 _ S34 H35 s36 st11_ s2_ D_ ⟨rfl, w31, p32, eb33⟩ hm37 nx38
      refine par_go ?_
      refine x_ev w31 p32 (e_add (e_var (R := rI) rfl rfl) e_cI) hm37 ?_
      intro often42 voften50 S43 H44 s45 w46 p47 g49 roften51 hm48
      cases (show voften50 = .int often42 from roften51)
      have eb33 := eb33.tr g49.s
      refine x_ev w46 p47 (e_fdiv (e_var (R := rI) rfl rfl) (e_var (R := rI) rfl rfl)) hm48 ?_
      intro number52 vnumber60 S53 H54 s55 w56 p57 g59 rnumber61 hm58
      cases (show vnumber60 = .int number52 from rnumber61)
      have eb33 := eb33.tr g59.s
      refine par_end [some (.int number52), some (.int p_p), some (.int often42)] rfl ?_
      cases run_of_pure hm58
      exact (nx38 _ _ _ ⟨rfl, w56, p57, eb33⟩).1
    · rintro st11 _ S65 H66 s67 ⟨rfl, w62, p63, eb64⟩ hm68
      refine q_ret w62 p63 (e_tup (K := K) (a_cons (e_var (R := rI) rfl rfl) (a_one (e_var (R := rI) rfl rfl))) (arN_cons arN_one) (by decide)) hm68 ?_
      intro r76 v77 S69 H70 s71 w72 p73 g75 rr78 hm74
      cases run_of_pure hm74
      exact fin _ ⟨S69, w72.g, p73, rr78⟩
end
abbrev t_power_left : Stmt := top 4
theorem sc_power_left : FnScope ["base", "often", "number", "found"] ["base", "often", "number"] (defScope t_power_left) := ⟨rfl, rfl, rfl, by decide +kernel, rfl, by decide +kernel, by decide +kernel⟩
@[irreducible] noncomputable def m_power_left (p_base : Int) (p_often : Int) (p_number : Int) : Option Int :=
bnd (1 : Int) fun found1 =>
Mir.lft (grd (0 < p_number)) >>= fun _ => bnd (p_base % p_number) fun base11 =>
(whS many (fun (st21 : Int × Int × Int) k => k (decide ((0 : Int) < st21.2.1))) (fun (st21 : Int × Int × Int) =>
Mir.lft (grd (0 < (2 : Int))) >>= fun _ => ((if (decide ((st21.2.1 % (2 : Int)) = (1 : Int))) = true then
(Mir.lft (grd (Sm st21.2.2 ∧ Sm st21.1)) >>= fun _ => Mir.lft (grd (0 < p_number)) >>= fun _ => bnd ((st21.2.2 * st21.1) % p_number) fun found62 =>
pure found62)
else
(pure st21.2.2)) >>= fun (st52 : Int) =>
Mir.lft (grd (Sm st21.1 ∧ Sm st21.1)) >>= fun _ => Mir.lft (grd (0 < p_number)) >>= fun _ => bnd ((st21.1 * st21.1) % p_number) fun base88 =>
Mir.lft (grd (Dv (2 : Int))) >>= fun _ => bnd (st21.2.1 / (2 : Int)) fun often98 =>
pure (base88, often98, st52))) (base11, p_often, found1)) >>= fun (st21 : Int × Int × Int) =>
bnd st21.2.2 fun r122 => pure r122
noncomputable abbrev fm_power_left : (Int × Int × Int) → Option Int := fun (a0, a1, a2) => m_power_left a0 a1 a2
abbrev sp_power_left (K : PySem.W.Frag) : Sp := spV F0 fm_power_left (fun _ => (aCons rI (aCons rI (aOne rI)))) rI
section
variable {P : Program} {w : World} {K : PySem.W.Frag} {mg : Str → Option Value} {base : Heap}
theorem g_power_left (T : Tx mg base)  {f : Addr} {fd : FuncData} (F : Fun K "power_left" "power_left" t_power_left f fd) : FnG P w K mg base CX0 1 f fd ["base", "often", "number"] (sp_power_left K) := by
  refine okG0 F sc_power_left (fun vs H Q E h => ?_) (fun cdv A outer s0_ H0 vs Q E hr gd h => ?_)
  · obtain ⟨_, _, _, _, _, _, _, _, ⟨_, _, rfl, _, ⟨_, _, rfl, _, ⟨_, rfl, _⟩⟩⟩, _⟩ := h
    rfl
  · obtain ⟨_, a, S0, s0, r, s', e0, p0, ⟨_, _, rfl, rfl, ⟨_, _, rfl, rfl, ⟨_, rfl, rfl⟩⟩⟩, hm0, fin0⟩ := h
    obtain ⟨p_base, p_often, p_number⟩ := a
    have fin : ∀ v {H' : Hp}, (∃ S', Gm (pt0).M S0 H0 S' H' ∧ PotAt pt0 s' S' H' ∧ rI r v S') → Q v H' := fun v {H'} ⟨S', h1, h2, h3⟩ => fin0 v S' H' h1 h2 h3
    have w0 : Wd pt0 S0 H0 S0 H0 [] := Wd.start e0
    have hm0 : Mir.run (m_power_left p_base p_often p_number) s0 = some (r, s') := hm0
    unfold m_power_left at hm0
    have sc := sc_power_left
    refine ⟨_, pss_cons (ps_par (i := 3) (j := 0) rfl sc.nd rfl rfl (by decide) rfl rfl (pa_cons (pe_int) (pa_cons (pe_op op_mod (pv 0) (pv 2)) (pa_nil))) (by rfl)) (pss_cons (ps_while PassesOwn.never (pt_cmpR op_gt (pv 1) (pe_int) (nomark _)) (pss_cons (ps_if (pt_cmpR op_eq (pe_op op_mod (pv 1) (pe_int)) (pe_int) (nomark _)) (pss_cons (ps_set (i := 3) sc.nd rfl (by first | exact Or.inl rfl | exact Or.inr rfl) (pe_op op_mod (pe_op op_mulX (pv 3) (pv 0)) (pv 2))) (pss_nil)) (pss_nil)) (pss_cons (ps_par (i := 0) (j := 1) rfl sc.nd rfl rfl (by decide) rfl rfl (pa_cons (pe_op op_mod (pe_op op_mulX (pv 0) (pv 0)) (pv 2)) (pa_cons (pe_op op_fdivW (pv 1) (pe_int)) (pa_nil))) (by rfl)) (pss_nil)))) (pss_cons (ps_ret (pv 3)) (pss_nil))), ?_⟩
    refine par_go ?_
    refine x_ev w0 p0 e_cI hm0 ?_
    intro found1 vfound9 S2 H3 s4 w5 p6 g8 rfound10 hm7
    cases (show vfound9 = .int found1 from rfound10)
    refine x_ev w5 p6 (e_mod (e_var (R := rI) rfl rfl) (e_var (R := rI) rfl rfl)) hm7 ?_
    intro base11 vbase19 S12 H13 s14 w15 p16 g18 rbase20 hm17
    cases (show vbase19 = .int base11 from rbase20)
    refine par_end [some (.int base11), some (.int p_often), some (.int p_number), some (.int found1)] rfl ?_
    refine q_wh (p := pt0) (fun st21 σ S' H' s' => σ = [some (.int st21.1), some (.int st21.2.1), some (.int p_number), some (.int st21.2.2)] ∧ Wd pt0 S0 H0 S' H' [] ∧ PotAt pt0 s' S' H' ∧ Ex S12 S') ⟨rfl, w15, p16, Ex.rf⟩ hm17 ?_ ?_ ?_ ?_
    · rintro st21 _ S27 H28 s29 ⟨rfl, w24, p25, eb26⟩
      exact ⟨p25, w24.i, (t_Test (e_gt (e_var (R := rI) rfl rfl) e_cI))⟩
    · rintro st21 _ S33 H34 s35 S36 H37 s38 ⟨rfl, w30, p31, eb32⟩ g39 p40
      exact ⟨rfl, w30.go g39, p40, eb32.tr g39.s⟩
    · rintro st21 _ S44 H45 s46 st21_ s2_ D_ ⟨rfl, w41, p42, eb43⟩ hm47 nx48
      refine q_ifj (p := pt0) (fun st52 σ S' H' s' => σ = [some (.int st21.1), some (.int st21.2.1), some (.int p_number), some (.int st52)] ∧ Wd pt0 S0 H0 S' H' [] ∧ PotAt pt0 s' S' H' ∧ Ex S44 S') w41 p42 (t_Test (e_eq (e_mod (e_var (R := rI) rfl rfl) e_cI) e_cI)) hm47 ?_ ?_ ?_
      · intro S53 H54 s55 st52_ s2_ D_ w56 p57 g58 hm59 nx60
        have eb43 := eb43.tr g58.s
        have eb61 := g58.s
        refine q_set (fun v => [some (.int st21.1), some (.int st21.2.1), some (.int p_number), some v]) (fun _ => rfl) w56 p57 (e_mod (e_mul (e_var (R := rI) rfl rfl) (e_var (R := rI) rfl rfl)) (e_var (R := rI) rfl rfl)) hm59 ?_
        intro found62 vfound70 S63 H64 s65 w66 p67 g69 rfound71 hm68
        cases (show vfound70 = .int found62 from rfound71)
        have eb43 := eb43.tr g69.s
        have eb61 := eb61.tr g69.s
        cases run_of_pure hm68
        exact nx60 _ _ _ ⟨rfl, w66, p67, eb61⟩
      · intro S72 H73 s74 st52_ s2_ D_ w75 p76 g77 hm78 nx79
        have eb43 := eb43.tr g77.s
        have eb80 := g77.s
        cases run_of_pure hm78
        exact nx79 _ _ _ ⟨rfl, w75, p76, eb80⟩
      · rintro st52 _ S84 H85 s86 ⟨rfl, w81, p82, eb83⟩ hm87
        have eb43 := eb43.tr eb83
        refine par_go ?_
        refine x_ev w81 p82 (e_mod (e_mul (e_var (R := rI) rfl rfl) (e_var (R := rI) rfl rfl)) (e_var (R := rI) rfl rfl)) hm87 ?_
        intro base88 vbase96 S89 H90 s91 w92 p93 g95 rbase97 hm94
        cases (show vbase96 = .int base88 from rbase97)
        have eb43 := eb43.tr g95.s
        refine x_ev w92 p93 (e_fdiv (e_var (R := rI) rfl rfl) e_cI) hm94 ?_
        intro often98 voften106 S99 H100 s101 w102 p103 g105 roften107 hm104
        cases (show voften106 = .int often98 from roften107)
        have eb43 := eb43.tr g105.s
        refine par_end [some (.int base88), some (.int often98), some (.int p_number), some (.int st52)] rfl ?_
        cases run_of_pure hm104
        exact (nx48 _ _ _ ⟨rfl, w102, p103, eb43⟩).1
    · rintro st21 _ S111 H112 s113 ⟨rfl, w108, p109, eb110⟩ hm114
      refine q_ret w108 p109 (e_var (R := rI) rfl rfl) hm114 ?_
      intro r122 v123 S115 H116 s117 w118 p119 g121 rr124 hm120
      cases run_of_pure hm120
      exact fin _ ⟨S115, w118.g, p119, rr124⟩
end
abbrev t_does_pass : Stmt := top 5
theorem sc_does_pass : FnScope ["number", "base", "often", "odd", "here", "step"] ["number", "base", "often", "odd"] (defScope t_does_pass) := ⟨rfl, rfl, rfl, by decide +kernel, rfl, by decide +kernel, by decide +kernel⟩
@[irreducible] noncomputable def m_does_pass (p_number : Int) (p_base : Int) (p_often : Int) (p_odd : Int) : Option Bool :=
Mir.lft (m_power_left p_base p_odd p_number) >>= fun r130 => bnd r130 fun here1 =>
Mir.lft (grd (List.length ([(1 : Int), (p_number - (1 : Int))] : List Int) ≤ 16000000)) >>= fun _ => if (List.contains ([(1 : Int), (p_number - (1 : Int))] : List Int) here1) = true then
(bnd true fun r25 => pure r25)
else
(Mir.lft (grd (RgB (p_often - (1 : Int)))) >>= fun _ => (lpC (ρ := Bool) (rng 0 (p_often - (1 : Int))) (fun (x37 : Int) (st35 : Int) =>
Mir.lft (grd (Sm st35 ∧ Sm st35)) >>= fun _ => Mir.lft (grd (0 < p_number)) >>= fun _ => bnd ((st35 * st35) % p_number) fun here76 =>
if (decide (here76 = (p_number - (1 : Int)))) = true then
(bnd true fun r100 => pure (Ctl.ret r100))
else
(pure (Ctl.go here76))) here1) >>= fun o => aft o (fun (st35 : Int) =>
bnd false fun r125 => pure r125) (fun r128 => pure r128))
noncomputable abbrev fm_does_pass : (Int × Int × Int × Int) → Option Bool := fun (a0, a1, a2, a3) => m_does_pass a0 a1 a2 a3
abbrev sp_does_pass (K : PySem.W.Frag) : Sp := spV F0 fm_does_pass (fun _ => (aCons rI (aCons rI (aCons rI (aOne rI))))) rB
section
variable {P : Program} {w : World} {K : PySem.W.Frag} {mg : Str → Option Value} {base : Heap}
theorem g_does_pass (T : Tx mg base) (D0 : Dk P w K mg base "power_left" "power_left" t_power_left 1 ["base", "often", "number"] (sp_power_left K)) {f : Addr} {fd : FuncData} (F : Fun K "does_pass" "does_pass" t_does_pass f fd) : FnG P w K mg base CX0 2 f fd ["number", "base", "often", "odd"] (sp_does_pass K) := by
  obtain ⟨f0, fd0, F0, m0, G0, b0⟩ := D0
  refine okG0 F sc_does_pass (fun vs H Q E h => ?_) (fun cdv A outer s0_ H0 vs Q E hr gd h => ?_)
  · obtain ⟨_, _, _, _, _, _, _, _, ⟨_, _, rfl, _, ⟨_, _, rfl, _, ⟨_, _, rfl, _, ⟨_, rfl, _⟩⟩⟩⟩, _⟩ := h
    rfl
  · obtain ⟨_, a, S0, s0, r, s', e0, p0, ⟨_, _, rfl, rfl, ⟨_, _, rfl, rfl, ⟨_, _, rfl, rfl, ⟨_, rfl, rfl⟩⟩⟩⟩, hm0, fin0⟩ := h
    obtain ⟨p_number, p_base, p_often, p_odd⟩ := a
    have fin : ∀ v {H' : Hp}, (∃ S', Gm (pt0).M S0 H0 S' H' ∧ PotAt pt0 s' S' H' ∧ rB r v S') → Q v H' := fun v {H'} ⟨S', h1, h2, h3⟩ => fin0 v S' H' h1 h2 h3
    have w0 : Wd pt0 S0 H0 S0 H0 [] := Wd.start e0
    have hm0 : Mir.run (m_does_pass p_number p_base p_often p_odd) s0 = some (r, s') := hm0
    unfold m_does_pass at hm0
    have sc := sc_does_pass
    refine ⟨_, pss_cons (ps_set (i := 4) sc.nd rfl (by first | exact Or.inl rfl | exact Or.inr rfl) (pe_cG G0 (hr.mono (by decide)) gd rfl m0 F0.kp b0 pass0 (pa_cons (pv 1) (pa_cons (pv 3) (pa_cons (pv 0) (pa_nil)))))) (pss_cons (ps_if (pt_cmpR (k_in K) (pv 4) (pe_tup (pa_cons (pe_int) (pa_cons (pe_op op_sub (pv 0) (pe_int)) (pa_nil)))) (by rfl)) (pss_cons (ps_ret (pe_bl)) (pss_nil)) (pss_nil)) (pss_cons (ps_for PassesOwn.never rfl (pi_range1 rfl T.n_range (pa_cons (pe_op op_sub (pv 2) (pe_int)) pa_nil)) (pg_name (i := 5) sc.nd rfl (by first | exact Or.inl rfl | exact Or.inr rfl)) (pss_cons (ps_set (i := 4) sc.nd rfl (by first | exact Or.inl rfl | exact Or.inr rfl) (pe_op op_mod (pe_op op_mulX (pv 4) (pv 4)) (pv 0))) (pss_cons (ps_if (pt_cmpR op_eq (pv 4) (pe_op op_sub (pv 0) (pe_int)) (nomark _)) (pss_cons (ps_ret (pe_bl)) (pss_nil)) (pss_nil)) (pss_nil)))) (pss_cons (ps_ret (pe_bl)) (pss_nil)))), ?_⟩
    refine q_set (fun v => [some (.int p_number), some (.int p_base), some (.int p_often), some (.int p_odd), some v, none]) (fun _ => rfl) w0 p0 (Ev.eta (e_call (E := E0) (fm := fm_power_left) (R := rI) (a_cons (e_var (R := rI) rfl rfl) (a_cons (e_var (R := rI) rfl rfl) (a_one (e_var (R := rI) rfl rfl)))))) hm0 ?_
    intro here1 vhere9 S2 H3 s4 w5 p6 g8 rhere10 hm7
    cases (show vhere9 = .int here1 from rhere10)
    refine q_if w5 p6 (t_Test (e_inT (neg := false) (e_var (R := rI) rfl rfl) (e_tupL (K := K) (a_consL e_cI (a_consL (e_sub (e_var (R := rI) rfl rfl) e_cI) (a_nilL (R := rI))))))) hm7 ?_ ?_
    · intro S11 H12 s13 w14 p15 g16 hm17
      refine q_ret w14 p15 e_cB hm17 ?_
      intro r25 v26 S18 H19 s20 w21 p22 g24 rr27 hm23
      cases run_of_pure hm23
      exact fin _ ⟨S18, w21.g, p22, rr27⟩
    · intro S28 H29 s30 w31 p32 g33 hm34
      refine nx_done ?_
      refine q_forC (p := pt0) (ρ := Bool) w31 p32 (i_R1 (e_sub (e_var (R := rI) rfl rfl) e_cI)) (g_nm (R := rI)) hm34 (fun Sb36 st35 σ S' H' s' => Ex Sb36 S' ∧ (∃ (xstep_ : Option V), σ = [some (.int p_number), some (.int p_base), some (.int p_often), some (.int p_odd), some (.int st35), xstep_] ∧ Wd pt0 S0 H0 S' H' [] ∧ PotAt pt0 s' S' H' ∧ Ex S28 S')) (fun r v H' s' => ∃ S', Gm (pt0).M S0 H0 S' H' ∧ PotAt pt0 s' S' H' ∧ rB r v S') ?_ ?_ ?_ ?_ ?_ ?_
      · intro S38 H39 s40 w41 p42 g43
        exact ⟨Ex.rf, ⟨_, rfl, w41, p42, g43.s⟩⟩
      · rintro Sb36 st35 _ S48 H49 s50 ⟨ex51, ⟨xstep44, rfl, w45, p46, eb47⟩⟩
        exact ⟨ex51, w45.i, p46, ownOk0⟩
      · rintro Sb36 st35 _ S56 H57 s58 S59 H60 ⟨ex62, ⟨xstep52, rfl, w53, p54, eb55⟩⟩ g61
        exact ⟨ex62.tr g61.s, _, rfl, w53.go (Gm.up g61), PotAt.go p54 g61, eb55.tr g61.s⟩
      · rintro Sb36 x37 st35 _ σ75 S67 H68 s69 st35_ s2_ D_ ⟨ex74, ⟨xstep63, rfl, w64, p65, eb66⟩⟩ hp hm70 nx71 bk72 rt73
        obtain ⟨_, rfl, rfl⟩ := hp
        refine q_set (fun v => [some (.int p_number), some (.int p_base), some (.int p_often), some (.int p_odd), some v, some (.int x37)]) (fun _ => rfl) w64 p65 (e_mod (e_mul (e_var (R := rI) rfl rfl) (e_var (R := rI) rfl rfl)) (e_var (R := rI) rfl rfl)) hm70 ?_
        intro here76 vhere84 S77 H78 s79 w80 p81 g83 rhere85 hm82
        cases (show vhere84 = .int here76 from rhere85)
        have eb66 := eb66.tr g83.s
        have ex74 := ex74.tr g83.s
        refine q_if w80 p81 (t_Test (e_eq (e_var (R := rI) rfl rfl) (e_sub (e_var (R := rI) rfl rfl) e_cI))) hm82 ?_ ?_
        · intro S86 H87 s88 w89 p90 g91 hm92
          have eb66 := eb66.tr g91.s
          have ex74 := ex74.tr g91.s
          refine q_ret w89 p90 e_cB hm92 ?_
          intro r100 v101 S93 H94 s95 w96 p97 g99 rr102 hm98
          cases run_of_pure hm98
          exact rt73 _ _ _ rfl ⟨S93, w96.g, p97, rr102⟩
        · intro S103 H104 s105 w106 p107 g108 hm109
          have eb66 := eb66.tr g108.s
          have ex74 := ex74.tr g108.s
          refine nx_done ?_
          cases run_of_pure hm109
          exact (nx71 _ _ _ _ rfl ⟨ex74, ⟨_, rfl, w106, p107, eb66⟩⟩).1
      · rintro Sb36 st35 _ S114 H115 s116 ⟨_, ⟨xstep110, rfl, w111, p112, eb113⟩⟩ hm117
        have hm117 := hm117.elim id id
        refine q_ret w111 p112 e_cB hm117 ?_
        intro r125 v126 S118 H119 s120 w121 p122 g124 rr127 hm123
        cases run_of_pure hm123
        exact fin _ ⟨S118, w121.g, p122, rr127⟩
      · intro r128 v129 H' s' hr1 hm1
        cases run_of_pure hm1
        exact fin _ hr1
end
abbrev t_is_prime_number : Stmt := top 3
theorem sc_is_prime_number : FnScope ["number", "small", "p", "often", "odd"] ["number"] (defScope t_is_prime_number) := ⟨rfl, rfl, rfl, by decide +kernel, rfl, by decide +kernel, by decide +kernel⟩
@[irreducible] noncomputable def m_is_prime_number (p_number : Int) : Option Bool :=
if (decide (p_number < (2 : Int))) = true then
(bnd false fun r15 => pure r15)
else
(Mir.lft (grd (List.length ([(2 : Int), (3 : Int), (5 : Int), (7 : Int), (11 : Int), (13 : Int), (17 : Int), (19 : Int), (23 : Int), (29 : Int), (31 : Int), (37 : Int)] : List Int) ≤ 16000000)) >>= fun _ => bnd ([(2 : Int), (3 : Int), (5 : Int), (7 : Int), (11 : Int), (13 : Int), (17 : Int), (19 : Int), (23 : Int), (29 : Int), (31 : Int), (37 : Int)] : List Int) fun small25 =>
(lpC (ρ := Bool) small25 (fun (x37 : Int) (st35 : Unit) =>
Mir.lft (grd (0 < x37)) >>= fun _ => if (decide ((p_number % x37) = (0 : Int))) = true then
(bnd (decide (p_number = x37)) fun r90 => pure (Ctl.ret r90))
else
(pure (Ctl.go ()))) ()) >>= fun o => aft o (fun (st35 : Unit) =>
Mir.lft (m_taken_out (p_number - (1 : Int)) (2 : Int)) >>= fun r133 => bnd r133 fun t108 =>
Mir.lft (grd (List.length small25 ≤ 16000000)) >>= fun _ => cmp small25 (fun x117 => Mir.lft (m_does_pass p_number x117 t108.1 t108.2) >>= fun r121 => pure (some r121)) >>= fun l132 => bnd (List.all l132 id) fun r129 => pure r129) (fun r134 => pure r134))
noncomputable abbrev fm_is_prime_number : (Int) → Option Bool := fun a => m_is_prime_number a
abbrev sp_is_prime_number (K : PySem.W.Frag) : Sp := spV F0 fm_is_prime_number (fun _ => (aOne rI)) rB
section
variable {P : Program} {w : World} {K : PySem.W.Frag} {mg : Str → Option Value} {base : Heap}
theorem g_is_prime_number (T : Tx mg base) (D0 : Dk P w K mg base "taken_out" "taken_out" t_taken_out 1 ["number", "p"] (sp_taken_out K)) (D1 : Dk P w K mg base "does_pass" "does_pass" t_does_pass 2 ["number", "base", "often", "odd"] (sp_does_pass K)) {f : Addr} {fd : FuncData} (F : Fun K "is_prime_number" "is_prime_number" t_is_prime_number f fd) : FnG P w K mg base CX0 3 f fd ["number"] (sp_is_prime_number K) := by
  obtain ⟨f0, fd0, F0, m0, G0, b0⟩ := D0
  obtain ⟨f1, fd1, F1, m1, G1, b1⟩ := D1
  refine okG0 F sc_is_prime_number (fun vs H Q E h => ?_) (fun cdv A outer s0_ H0 vs Q E hr gd h => ?_)
  · obtain ⟨_, _, _, _, _, _, _, _, ⟨_, rfl, _⟩, _⟩ := h
    rfl
  · obtain ⟨_, p_number, S0, s0, r, s', e0, p0, ⟨_, rfl, rfl⟩, hm0, fin0⟩ := h
    have fin : ∀ v {H' : Hp}, (∃ S', Gm (pt0).M S0 H0 S' H' ∧ PotAt pt0 s' S' H' ∧ rB r v S') → Q v H' := fun v {H'} ⟨S', h1, h2, h3⟩ => fin0 v S' H' h1 h2 h3
    have w0 : Wd pt0 S0 H0 S0 H0 [] := Wd.start e0
    have hm0 : Mir.run (m_is_prime_number p_number) s0 = some (r, s') := hm0
    unfold m_is_prime_number at hm0
    have sc := sc_is_prime_number
    refine ⟨_, pss_cons (ps_if (pt_cmpR op_lt (pv 0) (pe_int) (nomark _)) (pss_cons (ps_ret (pe_bl)) (pss_nil)) (pss_nil)) (pss_cons (ps_set (i := 1) sc.nd rfl (by first | exact Or.inl rfl | exact Or.inr rfl) (pe_tup (pa_cons (pe_int) (pa_cons (pe_int) (pa_cons (pe_int) (pa_cons (pe_int) (pa_cons (pe_int) (pa_cons (pe_int) (pa_cons (pe_int) (pa_cons (pe_int) (pa_cons (pe_int) (pa_cons (pe_int) (pa_cons (pe_int) (pa_cons (pe_int) (pa_nil))))))))))))))) (pss_cons (ps_for PassesOwn.never rfl (k_pit K (pv 1)) (pg_name (i := 2) sc.nd rfl (by first | exact Or.inl rfl | exact Or.inr rfl)) (pss_cons (ps_if (pt_cmpR op_eq (pe_op op_mod (pv 0) (pv 2)) (pe_int) (nomark _)) (pss_cons (ps_ret (pe_cmpR op_eq (pv 0) (pv 2) (nomark _))) (pss_nil)) (pss_nil)) (pss_nil))) (pss_cons (ps_asg (pe_cG G0 (hr.mono (by decide)) gd rfl m0 F0.kp b0 pass0 (pa_cons (pe_op op_sub (pv 0) (pe_int)) (pa_cons (pe_int) (pa_nil)))) (k_gt K (pgs_cons (pg_name (i := 3) sc.nd rfl (by first | exact Or.inl rfl | exact Or.inr rfl)) (pgs_cons (pg_name (i := 4) sc.nd rfl (by first | exact Or.inl rfl | exact Or.inr rfl)) (pgs_nil))))) (pss_cons (ps_ret (pe_callB (k_all K) (by rfl) T.n_all (by decide +kernel) (pa_cons (pe_lc (own := [("p", 2)]) (g := (gName 2)) (tt := tYes) rfl sc.nd (k_pit K (pv 1)) (blkOk_by (N := ["number", "small", "p", "often", "odd"]) (sc := defScope t_is_prime_number) (by decide +kernel)) (fun _ _ _ _ _ => pg_name (i := 2) sc.nd rfl (by first | exact Or.inl rfl | exact Or.inr rfl)) (fun _ _ _ _ _ => pts_nil) (fun _ _ _ _ _ => pe_cG G1 (hr.mono (by decide)) gd rfl m1 F1.kp b1 pass0 (pa_cons (pv 0) (pa_cons (pv 2) (pa_cons (pv 3) (pa_cons (pv 4) (pa_nil))))))) pa_nil))) (pss_nil))))), ?_⟩
    refine q_if w0 p0 (t_Test (e_lt (e_var (R := rI) rfl rfl) e_cI)) hm0 ?_ ?_
    · intro S1 H2 s3 w4 p5 g6 hm7
      refine q_ret w4 p5 e_cB hm7 ?_
      intro r15 v16 S8 H9 s10 w11 p12 g14 rr17 hm13
      cases run_of_pure hm13
      exact fin _ ⟨S8, w11.g, p12, rr17⟩
    · intro S18 H19 s20 w21 p22 g23 hm24
      refine nx_done ?_
      refine q_set (fun v => [some (.int p_number), some v, none, none, none]) (fun _ => rfl) w21 p22 (e_tupL (K := K) (a_consL e_cI (a_consL e_cI (a_consL e_cI (a_consL e_cI (a_consL e_cI (a_consL e_cI (a_consL e_cI (a_consL e_cI (a_consL e_cI (a_consL e_cI (a_consL e_cI (a_consL e_cI (a_nilL (R := rI))))))))))))))) hm24 ?_
      intro small25 vsmall33 S26 H27 s28 w29 p30 g32 rsmall34 hm31
      refine q_forC (p := pt0) (ρ := Bool) w29 p30 (i_T (e_var rfl rsmall34)) (g_nm (R := rI)) hm31 (fun Sb36 st35 σ S' H' s' => Ex Sb36 S' ∧ (∃ (xp_ : Option V), σ = [some (.int p_number), some vsmall33, xp_, none, none] ∧ Wd pt0 S0 H0 S' H' [] ∧ PotAt pt0 s' S' H' ∧ Ex S26 S')) (fun r v H' s' => ∃ S', Gm (pt0).M S0 H0 S' H' ∧ PotAt pt0 s' S' H' ∧ rB r v S') ?_ ?_ ?_ ?_ ?_ ?_
      · intro S38 H39 s40 w41 p42 g43
        have rsmall34 := Mo.mo g43.s rsmall34
        exact ⟨Ex.rf, ⟨_, rfl, w41, p42, g43.s⟩⟩
      · rintro Sb36 st35 _ S48 H49 s50 ⟨ex51, ⟨xp44, rfl, w45, p46, eb47⟩⟩
        exact ⟨ex51, w45.i, p46, ownOk0⟩
      · rintro Sb36 st35 _ S56 H57 s58 S59 H60 ⟨ex62, ⟨xp52, rfl, w53, p54, eb55⟩⟩ g61
        exact ⟨ex62.tr g61.s, _, rfl, w53.go (Gm.up g61), PotAt.go p54 g61, eb55.tr g61.s⟩
      · rintro Sb36 x37 st35 _ σ75 S67 H68 s69 st35_ s2_ D_ ⟨ex74, ⟨xp63, rfl, w64, p65, eb66⟩⟩ hp hm70 nx71 bk72 rt73
        obtain ⟨_, rfl, rfl⟩ := hp
        have rsmall34 := Mo.mo eb66 rsmall34
        refine q_if w64 p65 (t_Test (e_eq (e_mod (e_var (R := rI) rfl rfl) (e_var (R := rI) rfl rfl)) e_cI)) hm70 ?_ ?_
        · intro S76 H77 s78 w79 p80 g81 hm82
          have rsmall34 := Mo.mo g81.s rsmall34
          have eb66 := eb66.tr g81.s
          have ex74 := ex74.tr g81.s
          refine q_ret w79 p80 (e_eq (e_var (R := rI) rfl rfl) (e_var (R := rI) rfl rfl)) hm82 ?_
          intro r90 v91 S83 H84 s85 w86 p87 g89 rr92 hm88
          cases run_of_pure hm88
          exact rt73 _ _ _ rfl ⟨S83, w86.g, p87, rr92⟩
        · intro S93 H94 s95 w96 p97 g98 hm99
          have rsmall34 := Mo.mo g98.s rsmall34
          have eb66 := eb66.tr g98.s
          have ex74 := ex74.tr g98.s
          refine nx_done ?_
          cases run_of_pure hm99
          exact (nx71 _ _ _ _ rfl ⟨ex74, ⟨_, rfl, w96, p97, eb66⟩⟩).1
      · rintro Sb36 st35 _ S104 H105 s106 ⟨_, ⟨xp100, rfl, w101, p102, eb103⟩⟩ hm107
        have hm107 := hm107.elim id id
        have rsmall34 := Mo.mo eb103 rsmall34
        refine q_unp w101 p102 (Ev.eta (e_call (E := E0) (fm := fm_taken_out) (R := (rT K (aCons rI (aOne rI)))) (a_cons (e_sub (e_var (R := rI) rfl rfl) e_cI) (a_one e_cI)))) (g_tp (gq_cons (g_nm (R := rI)) (gq_one (g_nm (R := rI))))) hm107 ?_
        intro t108 σ116 S109 H110 s111 w112 p113 g115 hp hm114
        have rsmall34 := Mo.mo g115.s rsmall34
        obtain ⟨_, ⟨_, rfl, rfl⟩, ⟨_, rfl, rfl⟩⟩ := hp
        refine q_ret w112 p113 (c_all (EvL.rd (l_lc1 (γ := Bool) (vs := [2]) (me := fun x117 k => Mir.lft (m_does_pass p_number x117 t108.1 t108.2) >>= fun r120 => k r120) (R' := rB) (i_T (e_var rfl rsmall34)) ownOk0 (g_nm (R := rI)) (fun x σ' S hp => by obtain ⟨_, rfl, _⟩ := hp; rfl) (fun x117 σ' S1 H1 g118 hp => by have w119 := w112.go g118; obtain ⟨_, rfl, rfl⟩ := hp; have rsmall34 := Mo.mo g118.s rsmall34; exact (Ev.eta (e_call (E := E0) (fm := fm_does_pass) (R := rB) (a_cons (e_var (R := rI) rfl rfl) (a_cons (e_var (R := rI) rfl rfl) (a_cons (e_var (R := rI) rfl rfl) (a_one (e_var (R := rI) rfl rfl)))))))) pm_nm))) hm114 ?_
        intro r129 v130 S122 H123 s124 w125 p126 g128 rr131 hm127
        cases run_of_pure hm127
        exact fin _ ⟨S122, w125.g, p126, rr131⟩
      · intro r134 v135 H' s' hr1 hm1
        cases run_of_pure hm1
        exact fin _ hr1
end
abbrev t_primes_of : Stmt := top 6
theorem sc_primes_of : FnScope ["number", "found", "p", "often"] ["number"] (defScope t_primes_of) := ⟨rfl, rfl, rfl, by decide +kernel, rfl, by decide +kernel, by decide +kernel⟩
@[irreducible] noncomputable def m_primes_of (p_number : Int) : Option (List (Int × Int)) :=
Mir.lft (grd (List.length ([] : List (Int × Int)) ≤ 16000000)) >>= fun _ => bnd ([] : List (Int × Int)) fun found1 =>
bnd (2 : Int) fun p12 =>
(whC many (fun (st22 : Int × (List (Int × Int)) × Int) k => Mir.lft (grd (Sm st22.2.2 ∧ Sm st22.2.2)) >>= fun _ => k (decide ((st22.2.2 * st22.2.2) ≤ st22.1))) (fun (st22 : Int × (List (Int × Int)) × Int) =>
Mir.lft (grd (0 < st22.2.2)) >>= fun _ => if (decide ((st22.1 % st22.2.2) = (0 : Int))) = true then
(Mir.lft (m_taken_out st22.1 st22.2.2) >>= fun r134 => bnd r134 fun t72 =>
Mir.lft (grd (List.length st22.2.1 < 16000000)) >>= fun _ => bnd (st22.2.1 ++ [(st22.2.2, t72.1)]) fun found81 =>
Mir.lft (m_is_prime_number t72.2) >>= fun r133 => if r133 = true then
(pure (Ctl.brk (t72.2, found81, st22.2.2)))
else
((if (decide (st22.2.2 = (1009 : Int))) = true then Mir.lft (m_is_prime_number t72.2) >>= fun r132 => pure r132 else pure false) >>= fun b131 => if b131 = true then
(pure (Ctl.brk (t72.2, found81, st22.2.2)))
else
((if (decide (st22.2.2 = (2 : Int))) = true then pure (1 : Int) else (if (decide (st22.2.2 = (3 : Int))) = true then pure true else Mir.lft (grd (0 < (6 : Int))) >>= fun _ => pure (decide ((st22.2.2 % (6 : Int)) = (5 : Int)))) >>= fun b130 => pure (if b130 = true then (2 : Int) else (4 : Int))) >>= fun c129 => bnd (st22.2.2 + c129) fun p119 =>
pure (Ctl.go (t72.2, found81, p119)))))
else
((if (decide (st22.2.2 = (1009 : Int))) = true then Mir.lft (m_is_prime_number st22.1) >>= fun r169 => pure r169 else pure false) >>= fun b168 => if b168 = true then
(pure (Ctl.brk (st22.1, st22.2.1, st22.2.2)))
else
((if (decide (st22.2.2 = (2 : Int))) = true then pure (1 : Int) else (if (decide (st22.2.2 = (3 : Int))) = true then pure true else Mir.lft (grd (0 < (6 : Int))) >>= fun _ => pure (decide ((st22.2.2 % (6 : Int)) = (5 : Int)))) >>= fun b167 => pure (if b167 = true then (2 : Int) else (4 : Int))) >>= fun c166 => bnd (st22.2.2 + c166) fun p156 =>
pure (Ctl.go (st22.1, st22.2.1, p156))))) (p_number, found1, p12)) >>= fun o => aft o (fun (st22 : Int × (List (Int × Int)) × Int) =>
(if (decide ((1 : Int) < st22.1)) = true then Mir.lft (grd (List.length ([(st22.1, (1 : Int))] : List (Int × Int)) ≤ 16000000)) >>= fun _ => pure ([(st22.1, (1 : Int))] : List (Int × Int)) else Mir.lft (grd (List.length ([] : List (Int × Int)) ≤ 16000000)) >>= fun _ => pure ([] : List (Int × Int))) >>= fun c191 => Mir.lft (grd (List.length st22.2.1 + List.length c191 ≤ 16000000)) >>= fun _ => bnd (st22.2.1 ++ c191) fun r188 => pure r188) (fun r192 => Empty.elim r192)
noncomputable abbrev fm_primes_of : (Int) → Option (List (Int × Int)) := fun a => m_primes_of a
abbrev sp_primes_of (K : PySem.W.Frag) : Sp := spV F0 fm_primes_of (fun _ => (aOne rI)) (rT K (aAll (rT K (aCons rI (aOne rI)))))
section
variable {P : Program} {w : World} {K : PySem.W.Frag} {mg : Str → Option Value} {base : Heap}
theorem g_primes_of (T : Tx mg base) (D0 : Dk P w K mg base "taken_out" "taken_out" t_taken_out 1 ["number", "p"] (sp_taken_out K)) (D1 : Dk P w K mg base "is_prime_number" "is_prime_number" t_is_prime_number 3 ["number"] (sp_is_prime_number K)) {f : Addr} {fd : FuncData} (F : Fun K "primes_of" "primes_of" t_primes_of f fd) : FnG P w K mg base CX0 4 f fd ["number"] (sp_primes_of K) := by
  obtain ⟨f0, fd0, F0, m0, G0, b0⟩ := D0
  obtain ⟨f1, fd1, F1, m1, G1, b1⟩ := D1
  refine okG0 F sc_primes_of (fun vs H Q E h => ?_) (fun cdv A outer s0_ H0 vs Q E hr gd h => ?_)
  · obtain ⟨_, _, _, _, _, _, _, _, ⟨_, rfl, _⟩, _⟩ := h
    rfl
  · obtain ⟨_, p_number, S0, s0, r, s', e0, p0, ⟨_, rfl, rfl⟩, hm0, fin0⟩ := h
    have fin : ∀ v {H' : Hp}, (∃ S', Gm (pt0).M S0 H0 S' H' ∧ PotAt pt0 s' S' H' ∧ (rT K (aAll (rT K (aCons rI (aOne rI))))) r v S') → Q v H' := fun v {H'} ⟨S', h1, h2, h3⟩ => fin0 v S' H' h1 h2 h3
    have w0 : Wd pt0 S0 H0 S0 H0 [] := Wd.start e0
    have hm0 : Mir.run (m_primes_of p_number) s0 = some (r, s') := hm0
    unfold m_primes_of at hm0
    have sc := sc_primes_of
    refine ⟨_, pss_cons (ps_par (i := 1) (j := 2) rfl sc.nd rfl rfl (by decide) rfl rfl (pa_cons (pe_lst (pa_nil)) (pa_cons (pe_int) (pa_nil))) (by rfl)) (pss_cons (ps_while PassesOwn.never (pt_cmpR op_le (pe_op op_mulX (pv 2) (pv 2)) (pv 0) (nomark _)) (pss_cons (ps_if (pt_cmpR op_eq (pe_op op_mod (pv 0) (pv 2)) (pe_int) (nomark _)) (pss_cons (ps_asg (pe_cG G0 (hr.mono (by decide)) gd rfl m0 F0.kp b0 pass0 (pa_cons (pv 0) (pa_cons (pv 2) (pa_nil)))) (k_gt K (pgs_cons (pg_name (i := 3) sc.nd rfl (by first | exact Or.inl rfl | exact Or.inr rfl)) (pgs_cons (pg_name (i := 0) sc.nd rfl (by first | exact Or.inl rfl | exact Or.inr rfl)) (pgs_nil))))) (pss_cons (ps_expr (pe_bm PySem.F.plainAttrs_list PySem.F.slot_list_append PySem.F.type_list_append mt_append (pv 1) (pa_cons (pe_tup (pa_cons (pv 2) (pa_cons (pv 3) (pa_nil)))) pa_nil))) (pss_cons (ps_if (pt_val (pe_cG G1 (hr.mono (by decide)) gd rfl m1 F1.kp b1 pass0 (pa_cons (pv 0) (pa_nil)))) (pss_cons (ps_break) (pss_nil)) (pss_nil)) (pss_nil)))) (pss_nil)) (pss_cons (ps_if (PW.pt (pw_and (pt_cmpR op_eq (pv 2) (pe_int) (nomark _)) (pw_and1 (pt_val (pe_cG G1 (hr.mono (by decide)) gd rfl m1 F1.kp b1 pass0 (pa_cons (pv 0) (pa_nil))))))) (pss_cons (ps_break) (pss_nil)) (pss_nil)) (pss_cons (ps_set (i := 2) sc.nd rfl (by first | exact Or.inl rfl | exact Or.inr rfl) (pe_op op_add (pv 2) (pe_ifExp (pt_cmpR op_eq (pv 2) (pe_int) (nomark _)) (pe_int) (pe_ifExp (PW.pt (pw_or (pt_cmpR op_eq (pv 2) (pe_int) (nomark _)) (pw_or1 (pt_cmpR op_eq (pe_op op_mod (pv 2) (pe_int)) (pe_int) (nomark _))))) (pe_int) (pe_int))))) (pss_nil))))) (pss_cons (ps_ret (pe_callTy (k_tupOf K) (by rfl) T.n_tuple (by decide +kernel) (pa_cons (pe_op op_cat (pv 1) (pe_ifExp (pt_cmpR op_gt (pv 0) (pe_int) (nomark _)) (pe_lst (pa_cons (pe_tup (pa_cons (pv 0) (pa_cons (pe_int) (pa_nil)))) (pa_nil))) (pe_lst (pa_nil)))) pa_nil))) (pss_nil))), ?_⟩
    refine par_go ?_
    refine x_evL w0 p0 (l_lstL (a_nilL (R := (rT K (aCons rI (aOne rI)))))) hm0 ?_
    intro found1 q9 vs10 S2 H3 s4 w5 p6 g8 rfound11 hm7
    have rfound11 : All (rT K (aCons rI (aOne rI))) _ _ _ := rfound11
    refine x_ev w5 p6 e_cI hm7 ?_
    intro p12 vp20 S13 H14 s15 w16 p17 g19 rp21 hm18
    cases (show vp20 = .int p12 from rp21)
    have rfound11 := All.mo g19.s rfound11
    refine par_end [some (.int p_number), some (.ref q9), some (.int p12), none] rfl ?_
    refine q_whC (p := pt0) (ρ := Empty) (fun st22 σ S' H' s' => ∃ (qfound_ : Addr) (usfound_ : List V) (xoften_ : Option V), σ = [some (.int st22.1), some (.ref qfound_), some (.int st22.2.2), xoften_] ∧ Wd pt0 S0 H0 S' H' [(qfound_, .lst usfound_)] ∧ PotAt pt0 s' S' H' ∧ Ex S13 S' ∧ All (rT K (aCons rI (aOne rI))) S' st22.2.1 usfound_) (fun _ _ _ _ => False) ⟨_, _, _, rfl, w16, p17, Ex.rf, rfound11⟩ hm18 ?_ ?_ ?_ ?_ ?_
    · rintro st22 _ S32 H33 s34 ⟨qfound25, usfound26, xoften27, rfl, w29, p30, eb31, rfound28⟩
      exact ⟨p30, w29.i, (t_Test (e_le (e_mul (e_var (R := rI) rfl rfl) (e_var (R := rI) rfl rfl)) (e_var (R := rI) rfl rfl)))⟩
    · rintro st22 _ S42 H43 s44 S45 H46 s47 ⟨qfound35, usfound36, xoften37, rfl, w39, p40, eb41, rfound38⟩ g48 p49
      exact ⟨_, _, _, rfl, w39.go g48, p49, eb41.tr g48.s, All.mo g48.s rfound38⟩
    · rintro st22 _ S57 H58 s59 st22_ s2_ D_ ⟨qfound50, usfound51, xoften52, rfl, w54, p55, eb56, rfound53⟩ hm60 nx61 bk62 rt63
      refine q_if w54 p55 (t_Test (e_eq (e_mod (e_var (R := rI) rfl rfl) (e_var (R := rI) rfl rfl)) e_cI)) hm60 ?_ ?_
      · intro S65 H66 s67 w68 p69 g70 hm71
        have rfound53 := All.mo g70.s rfound53
        have eb56 := eb56.tr g70.s
        refine q_unp w68 p69 (Ev.eta (e_call (E := E0) (fm := fm_taken_out) (R := (rT K (aCons rI (aOne rI)))) (a_cons (e_var (R := rI) rfl rfl) (a_one (e_var (R := rI) rfl rfl))))) (g_tp (gq_cons (g_nm (R := rI)) (gq_one (g_nm (R := rI))))) hm71 ?_
        intro t72 σ80 S73 H74 s75 w76 p77 g79 hp hm78
        have rfound53 := All.mo g79.s rfound53
        have eb56 := eb56.tr g79.s
        obtain ⟨_, ⟨_, rfl, rfl⟩, ⟨_, rfl, rfl⟩⟩ := hp
        refine q_app (j := 0) w76 p77 rfl rfl rfound53 (e_tup (K := K) (a_cons (e_var (R := rI) rfl rfl) (a_one (e_var (R := rI) rfl rfl))) (arN_cons arN_one) (by decide)) hm78 ?_
        intro found81 vs82 S84 H85 s86 w87 p88 e90 rfound83 hm89
        have eb56 := eb56.tr e90
        refine q_if w87 p88 (t_B (Ev.eta (e_call (E := E0) (fm := fm_is_prime_number) (R := rB) (a_one (e_var (R := rI) rfl rfl))))) hm89 ?_ ?_
        · intro S91 H92 s93 w94 p95 g96 hm97
          have rfound83 := All.mo g96.s rfound83
          have eb56 := eb56.tr g96.s
          cases run_of_pure hm97
          exact bk62 _ _ _ _ rfl ⟨_, _, _, rfl, w94, p95, eb56, rfound83⟩
        · intro S98 H99 s100 w101 p102 g103 hm104
          have rfound83 := All.mo g103.s rfound83
          have eb56 := eb56.tr g103.s
          refine nx_done ?_
          refine nx_done ?_
          refine q_if w101 p102 (t_and (t_Test (e_eq (e_var (R := rI) rfl rfl) e_cI)) (t_B (Ev.eta (e_call (E := E0) (fm := fm_is_prime_number) (R := rB) (a_one (e_var (R := rI) rfl rfl)))))) hm104 ?_ ?_
          · intro S105 H106 s107 w108 p109 g110 hm111
            have rfound83 := All.mo g110.s rfound83
            have eb56 := eb56.tr g110.s
            cases run_of_pure hm111
            exact bk62 _ _ _ _ rfl ⟨_, _, _, rfl, w108, p109, eb56, rfound83⟩
          · intro S112 H113 s114 w115 p116 g117 hm118
            have rfound83 := All.mo g117.s rfound83
            have eb56 := eb56.tr g117.s
            refine nx_done ?_
            refine q_set (fun v => [some (.int t72.2), some (.ref qfound50), some v, some (.int t72.1)]) (fun _ => rfl) w115 p116 (e_add (e_var (R := rI) rfl rfl) (e_if (R := rI) (t_Test (e_eq (e_var (R := rI) rfl rfl) e_cI)) e_cI (e_ifT (R := rI) (t_or (t_Test (e_eq (e_var (R := rI) rfl rfl) e_cI)) (t_Test (e_eq (e_mod (e_var (R := rI) rfl rfl) e_cI) e_cI))) e_cI e_cI))) hm118 ?_
            intro p119 vp127 S120 H121 s122 w123 p124 g126 rp128 hm125
            cases (show vp127 = .int p119 from rp128)
            have rfound83 := All.mo g126.s rfound83
            have eb56 := eb56.tr g126.s
            cases run_of_pure hm125
            exact (nx61 _ _ _ _ rfl ⟨_, _, _, rfl, w123, p124, eb56, rfound83⟩).1
      · intro S135 H136 s137 w138 p139 g140 hm141
        have rfound53 := All.mo g140.s rfound53
        have eb56 := eb56.tr g140.s
        refine nx_done ?_
        refine q_if w138 p139 (t_and (t_Test (e_eq (e_var (R := rI) rfl rfl) e_cI)) (t_B (Ev.eta (e_call (E := E0) (fm := fm_is_prime_number) (R := rB) (a_one (e_var (R := rI) rfl rfl)))))) hm141 ?_ ?_
        · intro S142 H143 s144 w145 p146 g147 hm148
          have rfound53 := All.mo g147.s rfound53
          have eb56 := eb56.tr g147.s
          cases run_of_pure hm148
          exact bk62 _ _ _ _ rfl ⟨_, _, _, rfl, w145, p146, eb56, rfound53⟩
        · intro S149 H150 s151 w152 p153 g154 hm155
          have rfound53 := All.mo g154.s rfound53
          have eb56 := eb56.tr g154.s
          refine nx_done ?_
          refine q_set (fun v => [some (.int st22.1), some (.ref qfound50), some v, xoften52]) (fun _ => rfl) w152 p153 (e_add (e_var (R := rI) rfl rfl) (e_if (R := rI) (t_Test (e_eq (e_var (R := rI) rfl rfl) e_cI)) e_cI (e_ifT (R := rI) (t_or (t_Test (e_eq (e_var (R := rI) rfl rfl) e_cI)) (t_Test (e_eq (e_mod (e_var (R := rI) rfl rfl) e_cI) e_cI))) e_cI e_cI))) hm155 ?_
          intro p156 vp164 S157 H158 s159 w160 p161 g163 rp165 hm162
          cases (show vp164 = .int p156 from rp165)
          have rfound53 := All.mo g163.s rfound53
          have eb56 := eb56.tr g163.s
          cases run_of_pure hm162
          exact (nx61 _ _ _ _ rfl ⟨_, _, _, rfl, w160, p161, eb56, rfound53⟩).1
    · rintro st22 _ S177 H178 s179 ⟨qfound170, usfound171, xoften172, rfl, w174, p175, eb176, rfound173⟩ hm180
      have hm180 := hm180.elim id id
      refine q_ret w174 p175 (c_tup (K := K) (EvL.rd (l_cat (w_own (A := (aAll (rT K (aCons rI (aOne rI))))) (j := 0) w174 rfl rfl rfound173) (EvL.rd (l_if (α := (List (Int × Int))) (t_Test (e_gt (e_var (R := rI) rfl rfl) e_cI)) (l_lstL (a_consL (e_tup (K := K) (a_cons (e_var (R := rI) rfl rfl) (a_one e_cI)) (arN_cons arN_one) (by decide)) (a_nilL (R := (rT K (aCons rI (aOne rI))))))) (l_lstL (a_nilL (R := (rT K (aCons rI (aOne rI))))))))))) hm180 ?_
      intro r188 v189 S181 H182 s183 w184 p185 g187 rr190 hm186
      cases run_of_pure hm186
      exact fin _ ⟨S181, w184.g, p185, rr190⟩
    · intro r192 v193 H' s' hr1
      exact hr1.elim
end
abbrev t_common_divisor : Stmt := top 8
theorem sc_common_divisor : FnScope ["one", "other"] ["one", "other"] (defScope t_common_divisor) := ⟨rfl, rfl, rfl, by decide +kernel, rfl, by decide +kernel, by decide +kernel⟩
@[irreducible] noncomputable def m_common_divisor (p_one : Int) (p_other : Int) : Option Int :=
(whS many (fun (st1 : Int × Int) k => k (decide ((0 : Int) < st1.2))) (fun (st1 : Int × Int) =>
bnd st1.2 fun one32 =>
Mir.lft (grd (0 < st1.2)) >>= fun _ => bnd (st1.1 % st1.2) fun other42 =>
pure (one32, other42)) (p_one, p_other)) >>= fun (st1 : Int × Int) =>
bnd st1.1 fun r66 => pure r66
noncomputable abbrev fm_common_divisor : (Int × Int) → Option Int := fun (a0, a1) => m_common_divisor a0 a1
abbrev sp_common_divisor (K : PySem.W.Frag) : Sp := spV F0 fm_common_divisor (fun _ => (aCons rI (aOne rI))) rI
section
variable {P : Program} {w : World} {K : PySem.W.Frag} {mg : Str → Option Value} {base : Heap}
theorem g_common_divisor (T : Tx mg base)  {f : Addr} {fd : FuncData} (F : Fun K "common_divisor" "common_divisor" t_common_divisor f fd) : FnG P w K mg base CX0 1 f fd ["one", "other"] (sp_common_divisor K) := by
  refine okG0 F sc_common_divisor (fun vs H Q E h => ?_) (fun cdv A outer s0_ H0 vs Q E hr gd h => ?_)
  · obtain ⟨_, _, _, _, _, _, _, _, ⟨_, _, rfl, _, ⟨_, rfl, _⟩⟩, _⟩ := h
    rfl
  · obtain ⟨_, a, S0, s0, r, s', e0, p0, ⟨_, _, rfl, rfl, ⟨_, rfl, rfl⟩⟩, hm0, fin0⟩ := h
    obtain ⟨p_one, p_other⟩ := a
    have fin : ∀ v {H' : Hp}, (∃ S', Gm (pt0).M S0 H0 S' H' ∧ PotAt pt0 s' S' H' ∧ rI r v S') → Q v H' := fun v {H'} ⟨S', h1, h2, h3⟩ => fin0 v S' H' h1 h2 h3
    have w0 : Wd pt0 S0 H0 S0 H0 [] := Wd.start e0
    have hm0 : Mir.run (m_common_divisor p_one p_other) s0 = some (r, s') := hm0
    unfold m_common_divisor at hm0
    have sc := sc_common_divisor
    refine ⟨_, pss_cons (ps_while PassesOwn.never (pt_cmpR op_gt (pv 1) (pe_int) (nomark _)) (pss_cons (ps_par (i := 0) (j := 1) rfl sc.nd rfl rfl (by decide) rfl rfl (pa_cons (pv 1) (pa_cons (pe_op op_mod (pv 0) (pv 1)) (pa_nil))) (by rfl)) (pss_nil))) (pss_cons (ps_ret (pv 0)) (pss_nil)), ?_⟩
    refine q_wh (p := pt0) (fun st1 σ S' H' s' => σ = [some (.int st1.1), some (.int st1.2)] ∧ Wd pt0 S0 H0 S' H' [] ∧ PotAt pt0 s' S' H' ∧ Ex S0 S') ⟨rfl, w0, p0, Ex.rf⟩ hm0 ?_ ?_ ?_ ?_
    · rintro st1 _ S7 H8 s9 ⟨rfl, w4, p5, eb6⟩
      exact ⟨p5, w4.i, (t_Test (e_gt (e_var (R := rI) rfl rfl) e_cI))⟩
    · rintro st1 _ S13 H14 s15 S16 H17 s18 ⟨rfl, w10, p11, eb12⟩ g19 p20
      exact ⟨rfl, w10.go g19, p20, eb12.tr g19.s⟩
    · rintro st1 _ S24 H25 s26 st1_ s2_ D_ ⟨rfl, w21, p22, eb23⟩ hm27 nx28
      refine par_go ?_
      refine x_ev w21 p22 (e_var (R := rI) rfl rfl) hm27 ?_
      intro one32 vone40 S33 H34 s35 w36 p37 g39 rone41 hm38
      cases (show vone40 = .int one32 from rone41)
      have eb23 := eb23.tr g39.s
      refine x_ev w36 p37 (e_mod (e_var (R := rI) rfl rfl) (e_var (R := rI) rfl rfl)) hm38 ?_
      intro other42 vother50 S43 H44 s45 w46 p47 g49 rother51 hm48
      cases (show vother50 = .int other42 from rother51)
      have eb23 := eb23.tr g49.s
      refine par_end [some (.int one32), some (.int other42)] rfl ?_
      cases run_of_pure hm48
      exact (nx28 _ _ _ ⟨rfl, w46, p47, eb23⟩).1
    · rintro st1 _ S55 H56 s57 ⟨rfl, w52, p53, eb54⟩ hm58
      refine q_ret w52 p53 (e_var (R := rI) rfl rfl) hm58 ?_
      intro r66 v67 S59 H60 s61 w62 p63 g65 rr68 hm64
      cases run_of_pure hm64
      exact fin _ ⟨S59, w62.g, p63, rr68⟩
end
abbrev t_power_rest : Stmt := top 14
theorem sc_power_rest : FnScope ["number", "e", "n", "found", "here"] ["number", "e", "n"] (defScope t_power_rest) := ⟨rfl, rfl, rfl, by decide +kernel, rfl, by decide +kernel, by decide +kernel⟩
@[irreducible] noncomputable def m_power_rest (p_number : Int) (p_e : Int) (p_n : Int) : Option Int :=
Mir.lft (grd (0 < p_n)) >>= fun _ => bnd ((1 : Int) % p_n) fun found1 =>
Mir.lft (grd (0 < p_n)) >>= fun _ => bnd (p_number % p_n) fun here11 =>
(whS many (fun (st21 : Int × Int × Int) k => k (decide ((0 : Int) < st21.1))) (fun (st21 : Int × Int × Int) =>
Mir.lft (grd (0 < (2 : Int))) >>= fun _ => ((if (decide ((st21.1 % (2 : Int)) = (1 : Int))) = true then
(Mir.lft (grd (Sm st21.2.1 ∧ Sm st21.2.2)) >>= fun _ => Mir.lft (grd (0 < p_n)) >>= fun _ => bnd ((st21.2.1 * st21.2.2) % p_n) fun found62 =>
pure found62)
else
(pure st21.2.1)) >>= fun (st52 : Int) =>
Mir.lft (grd (Sm st21.2.2 ∧ Sm st21.2.2)) >>= fun _ => Mir.lft (grd (0 < p_n)) >>= fun _ => bnd ((st21.2.2 * st21.2.2) % p_n) fun here88 =>
Mir.lft (grd (Dv (2 : Int))) >>= fun _ => bnd (st21.1 / (2 : Int)) fun e98 =>
pure (e98, st52, here88))) (p_e, found1, here11)) >>= fun (st21 : Int × Int × Int) =>
bnd st21.2.1 fun r122 => pure r122
noncomputable abbrev fm_power_rest : (Int × Int × Int) → Option Int := fun (a0, a1, a2) => m_power_rest a0 a1 a2
abbrev sp_power_rest (K : PySem.W.Frag) : Sp := spV F0 fm_power_rest (fun _ => (aCons rI (aCons rI (aOne rI)))) rI
section
variable {P : Program} {w : World} {K : PySem.W.Frag} {mg : Str → Option Value} {base : Heap}
theorem g_power_rest (T : Tx mg base)  {f : Addr} {fd : FuncData} (F : Fun K "power_rest" "power_rest" t_power_rest f fd) : FnG P w K mg base CX0 1 f fd ["number", "e", "n"] (sp_power_rest K) := by
  refine okG0 F sc_power_rest (fun vs H Q E h => ?_) (fun cdv A outer s0_ H0 vs Q E hr gd h => ?_)
  · obtain ⟨_, _, _, _, _, _, _, _, ⟨_, _, rfl, _, ⟨_, _, rfl, _, ⟨_, rfl, _⟩⟩⟩, _⟩ := h
    rfl
  · obtain ⟨_, a, S0, s0, r, s', e0, p0, ⟨_, _, rfl, rfl, ⟨_, _, rfl, rfl, ⟨_, rfl, rfl⟩⟩⟩, hm0, fin0⟩ := h
    obtain ⟨p_number, p_e, p_n⟩ := a
    have fin : ∀ v {H' : Hp}, (∃ S', Gm (pt0).M S0 H0 S' H' ∧ PotAt pt0 s' S' H' ∧ rI r v S') → Q v H' := fun v {H'} ⟨S', h1, h2, h3⟩ => fin0 v S' H' h1 h2 h3
    have w0 : Wd pt0 S0 H0 S0 H0 [] := Wd.start e0
    have hm0 : Mir.run (m_power_rest p_number p_e p_n) s0 = some (r, s') := hm0
    unfold m_power_rest at hm0
    have sc := sc_power_rest
    refine ⟨_, pss_cons (ps_par (i := 3) (j := 4) rfl sc.nd rfl rfl (by decide) rfl rfl (pa_cons (pe_op op_mod (pe_int) (pv 2)) (pa_cons (pe_op op_mod (pv 0) (pv 2)) (pa_nil))) (by rfl)) (pss_cons (ps_while PassesOwn.never (pt_cmpR op_gt (pv 1) (pe_int) (nomark _)) (pss_cons (ps_if (pt_cmpR op_eq (pe_op op_mod (pv 1) (pe_int)) (pe_int) (nomark _)) (pss_cons (ps_set (i := 3) sc.nd rfl (by first | exact Or.inl rfl | exact Or.inr rfl) (pe_op op_mod (pe_op op_mulX (pv 3) (pv 4)) (pv 2))) (pss_nil)) (pss_nil)) (pss_cons (ps_par (i := 4) (j := 1) rfl sc.nd rfl rfl (by decide) rfl rfl (pa_cons (pe_op op_mod (pe_op op_mulX (pv 4) (pv 4)) (pv 2)) (pa_cons (pe_op op_fdivW (pv 1) (pe_int)) (pa_nil))) (by rfl)) (pss_nil)))) (pss_cons (ps_ret (pv 3)) (pss_nil))), ?_⟩
    refine par_go ?_
    refine x_ev w0 p0 (e_mod e_cI (e_var (R := rI) rfl rfl)) hm0 ?_
    intro found1 vfound9 S2 H3 s4 w5 p6 g8 rfound10 hm7
    cases (show vfound9 = .int found1 from rfound10)
    refine x_ev w5 p6 (e_mod (e_var (R := rI) rfl rfl) (e_var (R := rI) rfl rfl)) hm7 ?_
    intro here11 vhere19 S12 H13 s14 w15 p16 g18 rhere20 hm17
    cases (show vhere19 = .int here11 from rhere20)
    refine par_end [some (.int p_number), some (.int p_e), some (.int p_n), some (.int found1), some (.int here11)] rfl ?_
    refine q_wh (p := pt0) (fun st21 σ S' H' s' => σ = [some (.int p_number), some (.int st21.1), some (.int p_n), some (.int st21.2.1), some (.int st21.2.2)] ∧ Wd pt0 S0 H0 S' H' [] ∧ PotAt pt0 s' S' H' ∧ Ex S12 S') ⟨rfl, w15, p16, Ex.rf⟩ hm17 ?_ ?_ ?_ ?_
    · rintro st21 _ S27 H28 s29 ⟨rfl, w24, p25, eb26⟩
      exact ⟨p25, w24.i, (t_Test (e_gt (e_var (R := rI) rfl rfl) e_cI))⟩
    · rintro st21 _ S33 H34 s35 S36 H37 s38 ⟨rfl, w30, p31, eb32⟩ g39 p40
      exact ⟨rfl, w30.go g39, p40, eb32.tr g39.s⟩
    · rintro st21 _ S44 H45 s46 st21_ s2_ D_ ⟨rfl, w41, p42, eb43⟩ hm47 nx48
      refine q_ifj (p := pt0) (fun st52 σ S' H' s' => σ = [some (.int p_number), some (.int st21.1), some (.int p_n), some (.int st52), some (.int st21.2.2)] ∧ Wd pt0 S0 H0 S' H' [] ∧ PotAt pt0 s' S' H' ∧ Ex S44 S') w41 p42 (t_Test (e_eq (e_mod (e_var (R := rI) rfl rfl) e_cI) e_cI)) hm47 ?_ ?_ ?_
      · intro S53 H54 s55 st52_ s2_ D_ w56 p57 g58 hm59 nx60
        have eb43 := eb43.tr g58.s
        have eb61 := g58.s
        refine q_set (fun v => [some (.int p_number), some (.int st21.1), some (.int p_n), some v, some (.int st21.2.2)]) (fun _ => rfl) w56 p57 (e_mod (e_mul (e_var (R := rI) rfl rfl) (e_var (R := rI) rfl rfl)) (e_var (R := rI) rfl rfl)) hm59 ?_
        intro found62 vfound70 S63 H64 s65 w66 p67 g69 rfound71 hm68
        cases (show vfound70 = .int found62 from rfound71)
        have eb43 := eb43.tr g69.s
        have eb61 := eb61.tr g69.s
        cases run_of_pure hm68
        exact nx60 _ _ _ ⟨rfl, w66, p67, eb61⟩
      · intro S72 H73 s74 st52_ s2_ D_ w75 p76 g77 hm78 nx79
        have eb43 := eb43.tr g77.s
        have eb80 := g77.s
        cases run_of_pure hm78
        exact nx79 _ _ _ ⟨rfl, w75, p76, eb80⟩
      · rintro st52 _ S84 H85 s86 ⟨rfl, w81, p82, eb83⟩ hm87
        have eb43 := eb43.tr eb83
        refine par_go ?_
        refine x_ev w81 p82 (e_mod (e_mul (e_var (R := rI) rfl rfl) (e_var (R := rI) rfl rfl)) (e_var (R := rI) rfl rfl)) hm87 ?_
        intro here88 vhere96 S89 H90 s91 w92 p93 g95 rhere97 hm94
        cases (show vhere96 = .int here88 from rhere97)
        have eb43 := eb43.tr g95.s
        refine x_ev w92 p93 (e_fdiv (e_var (R := rI) rfl rfl) e_cI) hm94 ?_
        intro e98 ve106 S99 H100 s101 w102 p103 g105 re107 hm104
        cases (show ve106 = .int e98 from re107)
        have eb43 := eb43.tr g105.s
        refine par_end [some (.int p_number), some (.int e98), some (.int p_n), some (.int st52), some (.int here88)] rfl ?_
        cases run_of_pure hm104
        exact (nx48 _ _ _ ⟨rfl, w102, p103, eb43⟩).1
    · rintro st21 _ S111 H112 s113 ⟨rfl, w108, p109, eb110⟩ hm114
      refine q_ret w108 p109 (e_var (R := rI) rfl rfl) hm114 ?_
      intro r122 v123 S115 H116 s117 w118 p119 g121 rr124 hm120
      cases run_of_pure hm120
      exact fin _ ⟨S115, w118.g, p119, rr124⟩
end
abbrev t_power_of : Stmt := top 16
theorem sc_power_of : FnScope ["number", "k", "found", "step"] ["number", "k"] (defScope t_power_of) := ⟨rfl, rfl, rfl, by decide +kernel, rfl, by decide +kernel, by decide +kernel⟩
@[irreducible] noncomputable def m_power_of (p_number : Int) (p_k : Int) : Option Int :=
bnd (1 : Int) fun found1 =>
Mir.lft (grd (RgB p_k)) >>= fun _ => (lpS (rng 0 p_k) (fun (x13 : Int) (st11 : Int) =>
Mir.lft (grd (Sm st11 ∧ Sm p_number)) >>= fun _ => bnd (st11 * p_number) fun found52 =>
pure found52) found1) >>= fun (st11 : Int) =>
bnd st11 fun r77 => pure r77
noncomputable abbrev fm_power_of : (Int × Int) → Option Int := fun (a0, a1) => m_power_of a0 a1
abbrev sp_power_of (K : PySem.W.Frag) : Sp := spV F0 fm_power_of (fun _ => (aCons rI (aOne rI))) rI
section
variable {P : Program} {w : World} {K : PySem.W.Frag} {mg : Str → Option Value} {base : Heap}
theorem g_power_of (T : Tx mg base)  {f : Addr} {fd : FuncData} (F : Fun K "power_of" "power_of" t_power_of f fd) : FnG P w K mg base CX0 1 f fd ["number", "k"] (sp_power_of K) := by
  refine okG0 F sc_power_of (fun vs H Q E h => ?_) (fun cdv A outer s0_ H0 vs Q E hr gd h => ?_)
  · obtain ⟨_, _, _, _, _, _, _, _, ⟨_, _, rfl, _, ⟨_, rfl, _⟩⟩, _⟩ := h
    rfl
  · obtain ⟨_, a, S0, s0, r, s', e0, p0, ⟨_, _, rfl, rfl, ⟨_, rfl, rfl⟩⟩, hm0, fin0⟩ := h
    obtain ⟨p_number, p_k⟩ := a
    have fin : ∀ v {H' : Hp}, (∃ S', Gm (pt0).M S0 H0 S' H' ∧ PotAt pt0 s' S' H' ∧ rI r v S') → Q v H' := fun v {H'} ⟨S', h1, h2, h3⟩ => fin0 v S' H' h1 h2 h3
    have w0 : Wd pt0 S0 H0 S0 H0 [] := Wd.start e0
    have hm0 : Mir.run (m_power_of p_number p_k) s0 = some (r, s') := hm0
    unfold m_power_of at hm0
    have sc := sc_power_of
    refine ⟨_, pss_cons (ps_set (i := 2) sc.nd rfl (by first | exact Or.inl rfl | exact Or.inr rfl) (pe_int)) (pss_cons (ps_for PassesOwn.never rfl (pi_range1 rfl T.n_range (pa_cons (pv 1) pa_nil)) (pg_name (i := 3) sc.nd rfl (by first | exact Or.inl rfl | exact Or.inr rfl)) (pss_cons (ps_set (i := 2) sc.nd rfl (by first | exact Or.inl rfl | exact Or.inr rfl) (pe_op op_mulX (pv 2) (pv 0))) (pss_nil))) (pss_cons (ps_ret (pv 2)) (pss_nil))), ?_⟩
    refine q_set (fun v => [some (.int p_number), some (.int p_k), some v, none]) (fun _ => rfl) w0 p0 e_cI hm0 ?_
    intro found1 vfound9 S2 H3 s4 w5 p6 g8 rfound10 hm7
    cases (show vfound9 = .int found1 from rfound10)
    refine q_for (p := pt0) w5 p6 (i_R1 (e_var (R := rI) rfl rfl)) (g_nm (R := rI)) hm7 (fun Sb12 st11 σ S' H' s' => Ex Sb12 S' ∧ (∃ (xstep_ : Option V), σ = [some (.int p_number), some (.int p_k), some (.int st11), xstep_] ∧ Wd pt0 S0 H0 S' H' [] ∧ PotAt pt0 s' S' H' ∧ Ex S2 S')) ?_ ?_ ?_ ?_ ?_
    · intro S14 H15 s16 w17 p18 g19
      exact ⟨Ex.rf, ⟨_, rfl, w17, p18, g19.s⟩⟩
    · rintro Sb12 st11 _ S24 H25 s26 ⟨ex27, ⟨xstep20, rfl, w21, p22, eb23⟩⟩
      exact ⟨ex27, w21.i, p22, ownOk0⟩
    · rintro Sb12 st11 _ S32 H33 s34 S35 H36 ⟨ex38, ⟨xstep28, rfl, w29, p30, eb31⟩⟩ g37
      exact ⟨ex38.tr g37.s, _, rfl, w29.go (Gm.up g37), PotAt.go p30 g37, eb31.tr g37.s⟩
    · rintro Sb12 x13 st11 _ σ51 S43 H44 s45 st11_ s2_ D_ ⟨ex50, ⟨xstep39, rfl, w40, p41, eb42⟩⟩ hp hm46 nx47
      obtain ⟨_, rfl, rfl⟩ := hp
      refine q_set (fun v => [some (.int p_number), some (.int p_k), some v, some (.int x13)]) (fun _ => rfl) w40 p41 (e_mul (e_var (R := rI) rfl rfl) (e_var (R := rI) rfl rfl)) hm46 ?_
      intro found52 vfound60 S53 H54 s55 w56 p57 g59 rfound61 hm58
      cases (show vfound60 = .int found52 from rfound61)
      have eb42 := eb42.tr g59.s
      have ex50 := ex50.tr g59.s
      cases run_of_pure hm58
      exact (nx47 _ _ _ ⟨ex50, ⟨_, rfl, w56, p57, eb42⟩⟩).1
    · rintro Sb12 st11 _ S66 H67 s68 ⟨_, ⟨xstep62, rfl, w63, p64, eb65⟩⟩ hm69
      refine q_ret w63 p64 (e_var (R := rI) rfl rfl) hm69 ?_
      intro r77 v78 S70 H71 s72 w73 p74 g76 rr79 hm75
      cases run_of_pure hm75
      exact fin _ ⟨S70, w73.g, p74, rr79⟩
end
abbrev t_round_lengths : Stmt := top 17
theorem sc_round_lengths : FnScope ["n", "found", "p", "e"] ["n"] (defScope t_round_lengths) := ⟨rfl, rfl, rfl, by decide +kernel, rfl, by decide +kernel, by decide +kernel⟩
@[irreducible] noncomputable def m_round_lengths (p_n : Int) : Option (List Int) :=
Mir.lft (grd (List.length ([] : List Int) ≤ 16000000)) >>= fun _ => bnd ([] : List Int) fun found1 =>
Mir.lft (m_primes_of p_n) >>= fun r124 => (lpS r124 (fun (x14 : (Int × Int)) (st12 : (List Int)) =>
if ((decide ((2 : Int) < x14.1)) || (decide (x14.2 < (3 : Int)))) = true then
(Mir.lft (m_power_of x14.1 (x14.2 - (1 : Int))) >>= fun r82 => Mir.lft (grd (Sm (x14.1 - (1 : Int)) ∧ Sm r82)) >>= fun _ => Mir.lft (grd (List.length st12 < 16000000)) >>= fun _ => bnd (st12 ++ [((x14.1 - (1 : Int)) * r82)]) fun found72 =>
pure found72)
else
(Mir.lft (m_power_of (2 : Int) (x14.2 - (2 : Int))) >>= fun r100 => Mir.lft (grd (List.length ([(2 : Int), r100] : List Int) ≤ 16000000)) >>= fun _ => Mir.lft (grd (List.length st12 + List.length ([(2 : Int), r100] : List Int) ≤ 16000000)) >>= fun _ => bnd (st12 ++ ([(2 : Int), r100] : List Int)) fun found90 =>
pure found90)) found1) >>= fun (st12 : (List Int)) =>
bnd st12 fun r120 => pure r120
noncomputable abbrev fm_round_lengths : (Int) → Option (List Int) := fun a => m_round_lengths a
abbrev sp_round_lengths (K : PySem.W.Frag) : Sp := spN F0 fm_round_lengths (fun _ => (aOne rI)) (aAll rI)
section
variable {P : Program} {w : World} {K : PySem.W.Frag} {mg : Str → Option Value} {base : Heap}
theorem g_round_lengths (T : Tx mg base) (D0 : Dk P w K mg base "primes_of" "primes_of" t_primes_of 4 ["number"] (sp_primes_of K)) (D1 : Dk P w K mg base "power_of" "power_of" t_power_of 1 ["number", "k"] (sp_power_of K)) {f : Addr} {fd : FuncData} (F : Fun K "round_lengths" "round_lengths" t_round_lengths f fd) : FnG P w K mg base CX0 5 f fd ["n"] (sp_round_lengths K) := by
  obtain ⟨f0, fd0, F0, m0, G0, b0⟩ := D0
  obtain ⟨f1, fd1, F1, m1, G1, b1⟩ := D1
  refine okG0 F sc_round_lengths (fun vs H Q E h => ?_) (fun cdv A outer s0_ H0 vs Q E hr gd h => ?_)
  · obtain ⟨_, _, _, _, _, _, _, _, ⟨_, rfl, _⟩, _⟩ := h
    rfl
  · obtain ⟨_, p_n, S0, s0, r, s', e0, p0, ⟨_, rfl, rfl⟩, hm0, fin0⟩ := h
    have fin : ∀ v {H' : Hp}, (∃ S' q us, v = .ref q ∧ Gm (pt0).M S0 H0 S' H' ∧ PotAt pt0 s' S' H' ∧ H0 q = none ∧ H' q = some (.lst us) ∧ S' q = none ∧ (aAll rI) r us S') → Q v H' := fun v {H'} ⟨S', q, us, h0, h1, h2, h3, h4, h5, h6⟩ => by subst h0; exact fin0 q us S' H' h1 h2 h3 h4 h5 h6
    have w0 : Wd pt0 S0 H0 S0 H0 [] := Wd.start e0
    have hm0 : Mir.run (m_round_lengths p_n) s0 = some (r, s') := hm0
    unfold m_round_lengths at hm0
    have sc := sc_round_lengths
    refine ⟨_, pss_cons (ps_set (i := 1) sc.nd rfl (by first | exact Or.inl rfl | exact Or.inr rfl) (pe_lst (pa_nil))) (pss_cons (ps_for PassesOwn.never rfl (k_pit K (pe_cG G0 (hr.mono (by decide)) gd rfl m0 F0.kp b0 pass0 (pa_cons (pv 0) (pa_nil)))) (k_gt K (pgs_cons (pg_name (i := 2) sc.nd rfl (by first | exact Or.inl rfl | exact Or.inr rfl)) (pgs_cons (pg_name (i := 3) sc.nd rfl (by first | exact Or.inl rfl | exact Or.inr rfl)) (pgs_nil)))) (pss_cons (ps_if (PW.pt (pw_or (pt_cmpR op_gt (pv 2) (pe_int) (nomark _)) (pw_or1 (pt_cmpR op_lt (pv 3) (pe_int) (nomark _))))) (pss_cons (ps_expr (pe_bm PySem.F.plainAttrs_list PySem.F.slot_list_append PySem.F.type_list_append mt_append (pv 1) (pa_cons (pe_op op_mulX (pe_op op_sub (pv 2) (pe_int)) (pe_cG G1 (hr.mono (by decide)) gd rfl m1 F1.kp b1 pass0 (pa_cons (pv 2) (pa_cons (pe_op op_sub (pv 3) (pe_int)) (pa_nil))))) pa_nil))) (pss_nil)) (pss_cons (ps_expr (pe_bm PySem.F.plainAttrs_list PySem.F.slot_list_extend PySem.F.type_list_extend mt_extend (pv 1) (pa_cons (pe_lst (pa_cons (pe_int) (pa_cons (pe_cG G1 (hr.mono (by decide)) gd rfl m1 F1.kp b1 pass0 (pa_cons (pe_int) (pa_cons (pe_op op_sub (pv 3) (pe_int)) (pa_nil)))) (pa_nil)))) pa_nil))) (pss_nil))) (pss_nil))) (pss_cons (ps_ret (pv 1)) (pss_nil))), ?_⟩
    refine q_setL (fun v => [some (.int p_n), some v, none, none]) (fun _ => rfl) w0 p0 (l_lstL (a_nilL (R := rI))) hm0 ?_
    intro found1 q9 vs10 S2 H3 s4 w5 p6 g8 rfound11 hm7
    have rfound11 : All rI _ _ _ := rfound11
    refine q_for (p := pt0) w5 p6 (i_T (Ev.eta (e_call (E := E0) (fm := fm_primes_of) (R := (rT K (aAll (rT K (aCons rI (aOne rI)))))) (a_one (e_var (R := rI) rfl rfl))))) (g_tp (gq_cons (g_nm (R := rI)) (gq_one (g_nm (R := rI))))) hm7 (fun Sb13 st12 σ S' H' s' => Ex Sb13 S' ∧ (∃ (qfound_ : Addr) (usfound_ : List V) (xp_ : Option V) (xe_ : Option V), σ = [some (.int p_n), some (.ref qfound_), xp_, xe_] ∧ Wd pt0 S0 H0 S' H' [(qfound_, .lst usfound_)] ∧ PotAt pt0 s' S' H' ∧ Ex S2 S' ∧ All rI S' st12 usfound_)) ?_ ?_ ?_ ?_ ?_
    · intro S15 H16 s17 w18 p19 g20
      have rfound11 := All.mo g20.s rfound11
      exact ⟨Ex.rf, ⟨_, _, _, _, rfl, w18, p19, g20.s, rfound11⟩⟩
    · rintro Sb13 st12 _ S29 H30 s31 ⟨ex32, ⟨qfound21, usfound22, xp23, xe24, rfl, w26, p27, eb28, rfound25⟩⟩
      exact ⟨ex32, w26.i, p27, ownOk0⟩
    · rintro Sb13 st12 _ S41 H42 s43 S44 H45 ⟨ex47, ⟨qfound33, usfound34, xp35, xe36, rfl, w38, p39, eb40, rfound37⟩⟩ g46
      exact ⟨ex47.tr g46.s, _, _, _, _, rfl, w38.go (Gm.up g46), PotAt.go p39 g46, eb40.tr g46.s, All.mo g46.s rfound37⟩
    · rintro Sb13 x14 st12 _ σ64 S56 H57 s58 st12_ s2_ D_ ⟨ex63, ⟨qfound48, usfound49, xp50, xe51, rfl, w53, p54, eb55, rfound52⟩⟩ hp hm59 nx60
      obtain ⟨_, ⟨_, rfl, rfl⟩, ⟨_, rfl, rfl⟩⟩ := hp
      refine q_if w53 p54 (t_orT (t_Test (e_gt (e_var (R := rI) rfl rfl) e_cI)) (t_Test (e_lt (e_var (R := rI) rfl rfl) e_cI))) hm59 ?_ ?_
      · intro S65 H66 s67 w68 p69 g70 hm71
        have rfound52 := All.mo g70.s rfound52
        have eb55 := eb55.tr g70.s
        have ex63 := ex63.tr g70.s
        refine q_app (j := 0) w68 p69 rfl rfl rfound52 (e_mul (e_sub (e_var (R := rI) rfl rfl) e_cI) (Ev.eta (e_call (E := E0) (fm := fm_power_of) (R := rI) (a_cons (e_var (R := rI) rfl rfl) (a_one (e_sub (e_var (R := rI) rfl rfl) e_cI)))))) hm71 ?_
        intro found72 vs73 S75 H76 s77 w78 p79 e81 rfound74 hm80
        have eb55 := eb55.tr e81
        have ex63 := ex63.tr e81
        refine nx_done ?_
        cases run_of_pure hm80
        exact (nx60 _ _ _ ⟨ex63, ⟨_, _, _, _, rfl, w78, p79, eb55, rfound74⟩⟩).1
      · intro S83 H84 s85 w86 p87 g88 hm89
        have rfound52 := All.mo g88.s rfound52
        have eb55 := eb55.tr g88.s
        have ex63 := ex63.tr g88.s
        refine q_ext (j := 0) w86 p87 rfl rfl rfound52 (l_lstL (a_consL e_cI (a_consL (Ev.eta (e_call (E := E0) (fm := fm_power_of) (R := rI) (a_cons e_cI (a_one (e_sub (e_var (R := rI) rfl rfl) e_cI))))) (a_nilL (R := rI))))) hm89 ?_
        intro found90 vs91 S93 H94 s95 w96 p97 e99 rfound92 hm98
        have eb55 := eb55.tr e99
        have ex63 := ex63.tr e99
        refine nx_done ?_
        cases run_of_pure hm98
        exact (nx60 _ _ _ ⟨ex63, ⟨_, _, _, _, rfl, w96, p97, eb55, rfound92⟩⟩).1
    · rintro Sb13 st12 _ S109 H110 s111 ⟨_, ⟨qfound101, usfound102, xp103, xe104, rfl, w106, p107, eb108, rfound105⟩⟩ hm112
      refine q_retO (rfl : _ = some (some (V.ref qfound101))) hm112 ?_
      intro hm118
      cases run_of_pure hm118
      exact fin _ ⟨_, _, _, rfl, w106.g, p107, (w106.at (i := 0) rfl).2.2, (w106.at (i := 0) rfl).1, (w106.at (i := 0) rfl).2.1, rfound105⟩
end
abbrev t_greatest_order : Stmt := top 18
theorem sc_greatest_order : FnScope ["n", "found", "length"] ["n"] (defScope t_greatest_order) := ⟨rfl, rfl, rfl, by decide +kernel, rfl, by decide +kernel, by decide +kernel⟩
@[irreducible] noncomputable def m_greatest_order (p_n : Int) : Option Int :=
bnd (1 : Int) fun found1 =>
Mir.lft (m_round_lengths p_n) >>= fun r81 => (lpS r81 (fun (x13 : Int) (st11 : Int) =>
Mir.lft (m_common_divisor st11 x13) >>= fun r62 => Mir.lft (grd (Dv r62)) >>= fun _ => Mir.lft (grd (Sm (st11 / r62) ∧ Sm x13)) >>= fun _ => bnd ((st11 / r62) * x13) fun found52 =>
pure found52) found1) >>= fun (st11 : Int) =>
bnd st11 fun r78 => pure r78
noncomputable abbrev fm_greatest_order : (Int) → Option Int := fun a => m_greatest_order a
abbrev sp_greatest_order (K : PySem.W.Frag) : Sp := spV F0 fm_greatest_order (fun _ => (aOne rI)) rI
section
variable {P : Program} {w : World} {K : PySem.W.Frag} {mg : Str → Option Value} {base : Heap}
theorem g_greatest_order (T : Tx mg base) (D0 : Dk P w K mg base "round_lengths" "round_lengths" t_round_lengths 5 ["n"] (sp_round_lengths K)) (D1 : Dk P w K mg base "common_divisor" "common_divisor" t_common_divisor 1 ["one", "other"] (sp_common_divisor K)) {f : Addr} {fd : FuncData} (F : Fun K "greatest_order" "greatest_order" t_greatest_order f fd) : FnG P w K mg base CX0 6 f fd ["n"] (sp_greatest_order K) := by
  obtain ⟨f0, fd0, F0, m0, G0, b0⟩ := D0
  obtain ⟨f1, fd1, F1, m1, G1, b1⟩ := D1
  refine okG0 F sc_greatest_order (fun vs H Q E h => ?_) (fun cdv A outer s0_ H0 vs Q E hr gd h => ?_)
  · obtain ⟨_, _, _, _, _, _, _, _, ⟨_, rfl, _⟩, _⟩ := h
    rfl
  · obtain ⟨_, p_n, S0, s0, r, s', e0, p0, ⟨_, rfl, rfl⟩, hm0, fin0⟩ := h
    have fin : ∀ v {H' : Hp}, (∃ S', Gm (pt0).M S0 H0 S' H' ∧ PotAt pt0 s' S' H' ∧ rI r v S') → Q v H' := fun v {H'} ⟨S', h1, h2, h3⟩ => fin0 v S' H' h1 h2 h3
    have w0 : Wd pt0 S0 H0 S0 H0 [] := Wd.start e0
    have hm0 : Mir.run (m_greatest_order p_n) s0 = some (r, s') := hm0
    unfold m_greatest_order at hm0
    have sc := sc_greatest_order
    refine ⟨_, pss_cons (ps_set (i := 1) sc.nd rfl (by first | exact Or.inl rfl | exact Or.inr rfl) (pe_int)) (pss_cons (ps_for PassesOwn.never rfl (k_pil K (pe_cG G0 (hr.mono (by decide)) gd rfl m0 F0.kp b0 pass0 (pa_cons (pv 0) (pa_nil)))) (pg_name (i := 2) sc.nd rfl (by first | exact Or.inl rfl | exact Or.inr rfl)) (pss_cons (ps_set (i := 1) sc.nd rfl (by first | exact Or.inl rfl | exact Or.inr rfl) (pe_op op_mulX (pe_op op_fdivW (pv 1) (pe_cG G1 (hr.mono (by decide)) gd rfl m1 F1.kp b1 pass0 (pa_cons (pv 1) (pa_cons (pv 2) (pa_nil))))) (pv 2))) (pss_nil))) (pss_cons (ps_ret (pv 1)) (pss_nil))), ?_⟩
    refine q_set (fun v => [some (.int p_n), some v, none]) (fun _ => rfl) w0 p0 e_cI hm0 ?_
    intro found1 vfound9 S2 H3 s4 w5 p6 g8 rfound10 hm7
    cases (show vfound9 = .int found1 from rfound10)
    refine q_for (p := pt0) w5 p6 (i_L (K := K) (EvL.frz (EvL.eta (l_call (E := E0) (fm := fm_round_lengths) (R := (aAll rI)) (a_one (e_var (R := rI) rfl rfl)))))) (g_nm (R := rI)) hm7 (fun Sb12 st11 σ S' H' s' => Ex Sb12 S' ∧ (∃ (xlength_ : Option V), σ = [some (.int p_n), some (.int st11), xlength_] ∧ Wd pt0 S0 H0 S' H' [] ∧ PotAt pt0 s' S' H' ∧ Ex S2 S')) ?_ ?_ ?_ ?_ ?_
    · intro S14 H15 s16 w17 p18 g19
      exact ⟨Ex.rf, ⟨_, rfl, w17, p18, g19.s⟩⟩
    · rintro Sb12 st11 _ S24 H25 s26 ⟨ex27, ⟨xlength20, rfl, w21, p22, eb23⟩⟩
      exact ⟨ex27, w21.i, p22, ownOk0⟩
    · rintro Sb12 st11 _ S32 H33 s34 S35 H36 ⟨ex38, ⟨xlength28, rfl, w29, p30, eb31⟩⟩ g37
      exact ⟨ex38.tr g37.s, _, rfl, w29.go (Gm.up g37), PotAt.go p30 g37, eb31.tr g37.s⟩
    · rintro Sb12 x13 st11 _ σ51 S43 H44 s45 st11_ s2_ D_ ⟨ex50, ⟨xlength39, rfl, w40, p41, eb42⟩⟩ hp hm46 nx47
      obtain ⟨_, rfl, rfl⟩ := hp
      refine q_set (fun v => [some (.int p_n), some v, some (.int x13)]) (fun _ => rfl) w40 p41 (e_mul (e_fdiv (e_var (R := rI) rfl rfl) (Ev.eta (e_call (E := E0) (fm := fm_common_divisor) (R := rI) (a_cons (e_var (R := rI) rfl rfl) (a_one (e_var (R := rI) rfl rfl)))))) (e_var (R := rI) rfl rfl)) hm46 ?_
      intro found52 vfound60 S53 H54 s55 w56 p57 g59 rfound61 hm58
      cases (show vfound60 = .int found52 from rfound61)
      have eb42 := eb42.tr g59.s
      have ex50 := ex50.tr g59.s
      cases run_of_pure hm58
      exact (nx47 _ _ _ ⟨ex50, ⟨_, rfl, w56, p57, eb42⟩⟩).1
    · rintro Sb12 st11 _ S67 H68 s69 ⟨_, ⟨xlength63, rfl, w64, p65, eb66⟩⟩ hm70
      refine q_ret w64 p65 (e_var (R := rI) rfl rfl) hm70 ?_
      intro r78 v79 S71 H72 s73 w74 p75 g77 rr80 hm76
      cases run_of_pure hm76
      exact fin _ ⟨S71, w74.g, p75, rr80⟩
end
abbrev t_rests_number : Stmt := top 19
theorem sc_rests_number : FnScope ["n", "found", "length"] ["n"] (defScope t_rests_number) := ⟨rfl, rfl, rfl, by decide +kernel, rfl, by decide +kernel, by decide +kernel⟩
@[irreducible] noncomputable def m_rests_number (p_n : Int) : Option Int :=
bnd (1 : Int) fun found1 =>
Mir.lft (m_round_lengths p_n) >>= fun r80 => (lpS r80 (fun (x13 : Int) (st11 : Int) =>
Mir.lft (grd (Sm st11 ∧ Sm x13)) >>= fun _ => bnd (st11 * x13) fun found52 =>
pure found52) found1) >>= fun (st11 : Int) =>
bnd st11 fun r77 => pure r77
noncomputable abbrev fm_rests_number : (Int) → Option Int := fun a => m_rests_number a
abbrev sp_rests_number (K : PySem.W.Frag) : Sp := spV F0 fm_rests_number (fun _ => (aOne rI)) rI
section
variable {P : Program} {w : World} {K : PySem.W.Frag} {mg : Str → Option Value} {base : Heap}
theorem g_rests_number (T : Tx mg base) (D0 : Dk P w K mg base "round_lengths" "round_lengths" t_round_lengths 5 ["n"] (sp_round_lengths K)) {f : Addr} {fd : FuncData} (F : Fun K "rests_number" "rests_number" t_rests_number f fd) : FnG P w K mg base CX0 6 f fd ["n"] (sp_rests_number K) := by
  obtain ⟨f0, fd0, F0, m0, G0, b0⟩ := D0
  refine okG0 F sc_rests_number (fun vs H Q E h => ?_) (fun cdv A outer s0_ H0 vs Q E hr gd h => ?_)
  · obtain ⟨_, _, _, _, _, _, _, _, ⟨_, rfl, _⟩, _⟩ := h
    rfl
  · obtain ⟨_, p_n, S0, s0, r, s', e0, p0, ⟨_, rfl, rfl⟩, hm0, fin0⟩ := h
    have fin : ∀ v {H' : Hp}, (∃ S', Gm (pt0).M S0 H0 S' H' ∧ PotAt pt0 s' S' H' ∧ rI r v S') → Q v H' := fun v {H'} ⟨S', h1, h2, h3⟩ => fin0 v S' H' h1 h2 h3
    have w0 : Wd pt0 S0 H0 S0 H0 [] := Wd.start e0
    have hm0 : Mir.run (m_rests_number p_n) s0 = some (r, s') := hm0
    unfold m_rests_number at hm0
    have sc := sc_rests_number
    refine ⟨_, pss_cons (ps_set (i := 1) sc.nd rfl (by first | exact Or.inl rfl | exact Or.inr rfl) (pe_int)) (pss_cons (ps_for PassesOwn.never rfl (k_pil K (pe_cG G0 (hr.mono (by decide)) gd rfl m0 F0.kp b0 pass0 (pa_cons (pv 0) (pa_nil)))) (pg_name (i := 2) sc.nd rfl (by first | exact Or.inl rfl | exact Or.inr rfl)) (pss_cons (ps_set (i := 1) sc.nd rfl (by first | exact Or.inl rfl | exact Or.inr rfl) (pe_op op_mulX (pv 1) (pv 2))) (pss_nil))) (pss_cons (ps_ret (pv 1)) (pss_nil))), ?_⟩
    refine q_set (fun v => [some (.int p_n), some v, none]) (fun _ => rfl) w0 p0 e_cI hm0 ?_
    intro found1 vfound9 S2 H3 s4 w5 p6 g8 rfound10 hm7
    cases (show vfound9 = .int found1 from rfound10)
    refine q_for (p := pt0) w5 p6 (i_L (K := K) (EvL.frz (EvL.eta (l_call (E := E0) (fm := fm_round_lengths) (R := (aAll rI)) (a_one (e_var (R := rI) rfl rfl)))))) (g_nm (R := rI)) hm7 (fun Sb12 st11 σ S' H' s' => Ex Sb12 S' ∧ (∃ (xlength_ : Option V), σ = [some (.int p_n), some (.int st11), xlength_] ∧ Wd pt0 S0 H0 S' H' [] ∧ PotAt pt0 s' S' H' ∧ Ex S2 S')) ?_ ?_ ?_ ?_ ?_
    · intro S14 H15 s16 w17 p18 g19
      exact ⟨Ex.rf, ⟨_, rfl, w17, p18, g19.s⟩⟩
    · rintro Sb12 st11 _ S24 H25 s26 ⟨ex27, ⟨xlength20, rfl, w21, p22, eb23⟩⟩
      exact ⟨ex27, w21.i, p22, ownOk0⟩
    · rintro Sb12 st11 _ S32 H33 s34 S35 H36 ⟨ex38, ⟨xlength28, rfl, w29, p30, eb31⟩⟩ g37
      exact ⟨ex38.tr g37.s, _, rfl, w29.go (Gm.up g37), PotAt.go p30 g37, eb31.tr g37.s⟩
    · rintro Sb12 x13 st11 _ σ51 S43 H44 s45 st11_ s2_ D_ ⟨ex50, ⟨xlength39, rfl, w40, p41, eb42⟩⟩ hp hm46 nx47
      obtain ⟨_, rfl, rfl⟩ := hp
      refine q_set (fun v => [some (.int p_n), some v, some (.int x13)]) (fun _ => rfl) w40 p41 (e_mul (e_var (R := rI) rfl rfl) (e_var (R := rI) rfl rfl)) hm46 ?_
      intro found52 vfound60 S53 H54 s55 w56 p57 g59 rfound61 hm58
      cases (show vfound60 = .int found52 from rfound61)
      have eb42 := eb42.tr g59.s
      have ex50 := ex50.tr g59.s
      cases run_of_pure hm58
      exact (nx47 _ _ _ ⟨ex50, ⟨_, rfl, w56, p57, eb42⟩⟩).1
    · rintro Sb12 st11 _ S66 H67 s68 ⟨_, ⟨xlength62, rfl, w63, p64, eb65⟩⟩ hm69
      refine q_ret w63 p64 (e_var (R := rI) rfl rfl) hm69 ?_
      intro r77 v78 S70 H71 s72 w73 p74 g76 rr79 hm75
      cases run_of_pure hm75
      exact fin _ ⟨S70, w73.g, p74, rr79⟩
end
abbrev t_power_order : Stmt := top 20
theorem sc_power_order : FnScope ["a", "n", "found", "p", "k"] ["a", "n"] (defScope t_power_order) := ⟨rfl, rfl, rfl, by decide +kernel, rfl, by decide +kernel, by decide +kernel⟩
@[irreducible] noncomputable def m_power_order (p_a : Int) (p_n : Int) : Option Int :=
Mir.lft (m_common_divisor p_a p_n) >>= fun r143 => if (decide ((1 : Int) < r143)) = true then
(Mir.lft (none : Option Unit) >>= fun _ => Mir.lft none)
else
(Mir.lft (m_greatest_order p_n) >>= fun r142 => bnd r142 fun found15 =>
Mir.lft (m_primes_of found15) >>= fun r141 => (lpS r141 (fun (x27 : (Int × Int)) (st25 : Int) =>
(whS many (fun (st69 : Int) k => Mir.lft (grd (0 < x27.1)) >>= fun _ => (if (decide ((st69 % x27.1) = (0 : Int))) = true then Mir.lft (grd (Dv x27.1)) >>= fun _ => Mir.lft (m_power_rest p_a (st69 / x27.1) p_n) >>= fun r121 => Mir.lft (grd (0 < p_n)) >>= fun _ => pure (decide (r121 = ((1 : Int) % p_n))) else pure false) >>= fun b120 => k b120) (fun (st69 : Int) =>
Mir.lft (grd (Dv x27.1)) >>= fun _ => bnd (st69 / x27.1) fun found100 =>
pure found100) st25) >>= fun (st69 : Int) =>
pure st69) found15) >>= fun (st25 : Int) =>
bnd st25 fun r138 => pure r138)
noncomputable abbrev fm_power_order : (Int × Int) → Option Int := fun (a0, a1) => m_power_order a0 a1
abbrev sp_power_order (K : PySem.W.Frag) : Sp := spV F0 fm_power_order (fun _ => (aCons rI (aOne rI))) rI
section
variable {P : Program} {w : World} {K : PySem.W.Frag} {mg : Str → Option Value} {base : Heap}
theorem g_power_order (T : Tx mg base) (D0 : Dk P w K mg base "common_divisor" "common_divisor" t_common_divisor 1 ["one", "other"] (sp_common_divisor K)) (D1 : Dk P w K mg base "greatest_order" "greatest_order" t_greatest_order 6 ["n"] (sp_greatest_order K)) (D2 : Dk P w K mg base "primes_of" "primes_of" t_primes_of 4 ["number"] (sp_primes_of K)) (D3 : Dk P w K mg base "power_rest" "power_rest" t_power_rest 1 ["number", "e", "n"] (sp_power_rest K)) {f : Addr} {fd : FuncData} (F : Fun K "power_order" "power_order" t_power_order f fd) : FnG P w K mg base CX0 7 f fd ["a", "n"] (sp_power_order K) := by
  obtain ⟨f0, fd0, F0, m0, G0, b0⟩ := D0
  obtain ⟨f1, fd1, F1, m1, G1, b1⟩ := D1
  obtain ⟨f2, fd2, F2, m2, G2, b2⟩ := D2
  obtain ⟨f3, fd3, F3, m3, G3, b3⟩ := D3
  refine okG0 F sc_power_order (fun vs H Q E h => ?_) (fun cdv A outer s0_ H0 vs Q E hr gd h => ?_)
  · obtain ⟨_, _, _, _, _, _, _, _, ⟨_, _, rfl, _, ⟨_, rfl, _⟩⟩, _⟩ := h
    rfl
  · obtain ⟨_, a, S0, s0, r, s', e0, p0, ⟨_, _, rfl, rfl, ⟨_, rfl, rfl⟩⟩, hm0, fin0⟩ := h
    obtain ⟨p_a, p_n⟩ := a
    have fin : ∀ v {H' : Hp}, (∃ S', Gm (pt0).M S0 H0 S' H' ∧ PotAt pt0 s' S' H' ∧ rI r v S') → Q v H' := fun v {H'} ⟨S', h1, h2, h3⟩ => fin0 v S' H' h1 h2 h3
    have w0 : Wd pt0 S0 H0 S0 H0 [] := Wd.start e0
    have hm0 : Mir.run (m_power_order p_a p_n) s0 = some (r, s') := hm0
    unfold m_power_order at hm0
    have sc := sc_power_order
    refine ⟨_, pss_cons (ps_if (pt_cmpR op_gt (pe_cG G0 (hr.mono (by decide)) gd rfl m0 F0.kp b0 pass0 (pa_cons (pv 0) (pa_cons (pv 1) (pa_nil)))) (pe_int) (nomark _)) (pss_cons (ps_dead) (pss_nil)) (pss_nil)) (pss_cons (ps_set (i := 2) sc.nd rfl (by first | exact Or.inl rfl | exact Or.inr rfl) (pe_cG G1 (hr.mono (by decide)) gd rfl m1 F1.kp b1 pass0 (pa_cons (pv 1) (pa_nil)))) (pss_cons (ps_for PassesOwn.never rfl (k_pit K (pe_cG G2 (hr.mono (by decide)) gd rfl m2 F2.kp b2 pass0 (pa_cons (pv 2) (pa_nil)))) (k_gt K (pgs_cons (pg_name (i := 3) sc.nd rfl (by first | exact Or.inl rfl | exact Or.inr rfl)) (pgs_cons (pg_name (i := 4) sc.nd rfl (by first | exact Or.inl rfl | exact Or.inr rfl)) (pgs_nil)))) (pss_cons (ps_while PassesOwn.never (PW.pt (pw_and (pt_cmpR op_eq (pe_op op_mod (pv 2) (pv 3)) (pe_int) (nomark _)) (pw_and1 (pt_cmpR op_eq (pe_cG G3 (hr.mono (by decide)) gd rfl m3 F3.kp b3 pass0 (pa_cons (pv 0) (pa_cons (pe_op op_fdivW (pv 2) (pv 3)) (pa_cons (pv 1) (pa_nil))))) (pe_op op_mod (pe_int) (pv 1)) (nomark _))))) (pss_cons (ps_set (i := 2) sc.nd rfl (by first | exact Or.inl rfl | exact Or.inr rfl) (pe_op op_fdivW (pv 2) (pv 3))) (pss_nil))) (pss_nil))) (pss_cons (ps_ret (pv 2)) (pss_nil)))), ?_⟩
    refine q_if w0 p0 (t_Test (e_gt (Ev.eta (e_call (E := E0) (fm := fm_common_divisor) (R := rI) (a_cons (e_var (R := rI) rfl rfl) (a_one (e_var (R := rI) rfl rfl))))) e_cI)) hm0 ?_ ?_
    · intro S1 H2 s3 w4 p5 g6 hm7
      exact q_dead hm7
    · intro S8 H9 s10 w11 p12 g13 hm14
      refine nx_done ?_
      refine q_set (fun v => [some (.int p_a), some (.int p_n), some v, none, none]) (fun _ => rfl) w11 p12 (Ev.eta (e_call (E := E0) (fm := fm_greatest_order) (R := rI) (a_one (e_var (R := rI) rfl rfl)))) hm14 ?_
      intro found15 vfound23 S16 H17 s18 w19 p20 g22 rfound24 hm21
      cases (show vfound23 = .int found15 from rfound24)
      refine q_for (p := pt0) w19 p20 (i_T (Ev.eta (e_call (E := E0) (fm := fm_primes_of) (R := (rT K (aAll (rT K (aCons rI (aOne rI)))))) (a_one (e_var (R := rI) rfl rfl))))) (g_tp (gq_cons (g_nm (R := rI)) (gq_one (g_nm (R := rI))))) hm21 (fun Sb26 st25 σ S' H' s' => Ex Sb26 S' ∧ (∃ (xp_ : Option V) (xk_ : Option V), σ = [some (.int p_a), some (.int p_n), some (.int st25), xp_, xk_] ∧ Wd pt0 S0 H0 S' H' [] ∧ PotAt pt0 s' S' H' ∧ Ex S16 S')) ?_ ?_ ?_ ?_ ?_
      · intro S28 H29 s30 w31 p32 g33
        exact ⟨Ex.rf, ⟨_, _, rfl, w31, p32, g33.s⟩⟩
      · rintro Sb26 st25 _ S39 H40 s41 ⟨ex42, ⟨xp34, xk35, rfl, w36, p37, eb38⟩⟩
        exact ⟨ex42, w36.i, p37, ownOk0⟩
      · rintro Sb26 st25 _ S48 H49 s50 S51 H52 ⟨ex54, ⟨xp43, xk44, rfl, w45, p46, eb47⟩⟩ g53
        exact ⟨ex54.tr g53.s, _, _, rfl, w45.go (Gm.up g53), PotAt.go p46 g53, eb47.tr g53.s⟩
      · rintro Sb26 x27 st25 _ σ68 S60 H61 s62 st25_ s2_ D_ ⟨ex67, ⟨xp55, xk56, rfl, w57, p58, eb59⟩⟩ hp hm63 nx64
        obtain ⟨_, ⟨_, rfl, rfl⟩, ⟨_, rfl, rfl⟩⟩ := hp
        refine q_wh (p := pt0) (fun st69 σ S' H' s' => σ = [some (.int p_a), some (.int p_n), some (.int st69), some (.int x27.1), some (.int x27.2)] ∧ Wd pt0 S0 H0 S' H' [] ∧ PotAt pt0 s' S' H' ∧ Ex S60 S') ⟨rfl, w57, p58, Ex.rf⟩ hm63 ?_ ?_ ?_ ?_
        · rintro st69 _ S75 H76 s77 ⟨rfl, w72, p73, eb74⟩
          have eb59 := eb59.tr eb74
          have ex67 := ex67.tr eb74
          exact ⟨p73, w72.i, (t_and (t_Test (e_eq (e_mod (e_var (R := rI) rfl rfl) (e_var (R := rI) rfl rfl)) e_cI)) (t_Test (e_eq (Ev.eta (e_call (E := E0) (fm := fm_power_rest) (R := rI) (a_cons (e_var (R := rI) rfl rfl) (a_cons (e_fdiv (e_var (R := rI) rfl rfl) (e_var (R := rI) rfl rfl)) (a_one (e_var (R := rI) rfl rfl)))))) (e_mod e_cI (e_var (R := rI) rfl rfl)))))⟩
        · rintro st69 _ S81 H82 s83 S84 H85 s86 ⟨rfl, w78, p79, eb80⟩ g87 p88
          exact ⟨rfl, w78.go g87, p88, eb80.tr g87.s⟩
        · rintro st69 _ S92 H93 s94 st69_ s2_ D_ ⟨rfl, w89, p90, eb91⟩ hm95 nx96
          have eb59 := eb59.tr eb91
          have ex67 := ex67.tr eb91
          refine q_set (fun v => [some (.int p_a), some (.int p_n), some v, some (.int x27.1), some (.int x27.2)]) (fun _ => rfl) w89 p90 (e_fdiv (e_var (R := rI) rfl rfl) (e_var (R := rI) rfl rfl)) hm95 ?_
          intro found100 vfound108 S101 H102 s103 w104 p105 g107 rfound109 hm106
          cases (show vfound108 = .int found100 from rfound109)
          have eb59 := eb59.tr g107.s
          have ex67 := ex67.tr g107.s
          have eb91 := eb91.tr g107.s
          cases run_of_pure hm106
          exact (nx96 _ _ _ ⟨rfl, w104, p105, eb91⟩).1
        · rintro st69 _ S113 H114 s115 ⟨rfl, w110, p111, eb112⟩ hm116
          have eb59 := eb59.tr eb112
          have ex67 := ex67.tr eb112
          cases run_of_pure hm116
          exact (nx64 _ _ _ ⟨ex67, ⟨_, _, rfl, w110, p111, eb59⟩⟩).1
      · rintro Sb26 st25 _ S127 H128 s129 ⟨_, ⟨xp122, xk123, rfl, w124, p125, eb126⟩⟩ hm130
        refine q_ret w124 p125 (e_var (R := rI) rfl rfl) hm130 ?_
        intro r138 v139 S131 H132 s133 w134 p135 g137 rr140 hm136
        cases run_of_pure hm136
        exact fin _ ⟨S131, w134.g, p135, rr140⟩
end
abbrev t_divisors_made : Stmt := top 21
theorem sc_divisors_made : FnScope ["parting", "found", "p", "k", "longer", "step", "d"] ["parting"] (defScope t_divisors_made) := ⟨rfl, rfl, rfl, by decide +kernel, rfl, by decide +kernel, by decide +kernel⟩
@[irreducible] noncomputable def m_divisors_made (p_parting : (List (Int × Int))) : Option (List Int) :=
Mir.lft (grd (List.length ([(1 : Int)] : List Int) ≤ 16000000)) >>= fun _ => bnd ([(1 : Int)] : List Int) fun found1 =>
(lpS p_parting (fun (x13 : (Int × Int)) (st11 : (List Int)) =>
Mir.lft (grd (List.length ([] : List Int) ≤ 16000000)) >>= fun _ => bnd ([] : List Int) fun longer67 =>
Mir.lft (grd (RgB (x13.2 + (1 : Int)))) >>= fun _ => (lpS (rng 0 (x13.2 + (1 : Int))) (fun (x80 : Int) (st78 : (List Int)) =>
Mir.lft (grd (List.length st11 ≤ 16000000)) >>= fun _ => cmp st11 (fun x128 => Mir.lft (m_power_of x13.1 x80) >>= fun r132 => Mir.lft (grd (Sm x128 ∧ Sm r132)) >>= fun _ => pure (some (x128 * r132))) >>= fun l143 => Mir.lft (grd (List.length st78 + List.length l143 ≤ 16000000)) >>= fun _ => bnd (st78 ++ l143) fun longer133 =>
pure longer133) longer67) >>= fun (st78 : (List Int)) =>
bnd st78 fun _ =>
pure st78) found1) >>= fun (st11 : (List Int)) =>
bnd (srt st11) fun r182 => pure r182
noncomputable abbrev fm_divisors_made : ((List (Int × Int))) → Option (List Int) := fun a => m_divisors_made a
abbrev sp_divisors_made (K : PySem.W.Frag) : Sp := spN F0 fm_divisors_made (fun _ => (aOne (rT K (aAll (rT K (aCons rI (aOne rI))))))) (aAll rI)
section
variable {P : Program} {w : World} {K : PySem.W.Frag} {mg : Str → Option Value} {base : Heap}
theorem g_divisors_made (T : Tx mg base) (D0 : Dk P w K mg base "power_of" "power_of" t_power_of 1 ["number", "k"] (sp_power_of K)) {f : Addr} {fd : FuncData} (F : Fun K "divisors_made" "divisors_made" t_divisors_made f fd) : FnG P w K mg base CX0 2 f fd ["parting"] (sp_divisors_made K) := by
  obtain ⟨f0, fd0, F0, m0, G0, b0⟩ := D0
  refine okG0 F sc_divisors_made (fun vs H Q E h => ?_) (fun cdv A outer s0_ H0 vs Q E hr gd h => ?_)
  · obtain ⟨_, _, _, _, _, _, _, _, ⟨_, rfl, _⟩, _⟩ := h
    rfl
  · obtain ⟨_, p_parting, S0, s0, r, s', e0, p0, ⟨v_parting, rfl, r_parting⟩, hm0, fin0⟩ := h
    have fin : ∀ v {H' : Hp}, (∃ S' q us, v = .ref q ∧ Gm (pt0).M S0 H0 S' H' ∧ PotAt pt0 s' S' H' ∧ H0 q = none ∧ H' q = some (.lst us) ∧ S' q = none ∧ (aAll rI) r us S') → Q v H' := fun v {H'} ⟨S', q, us, h0, h1, h2, h3, h4, h5, h6⟩ => by subst h0; exact fin0 q us S' H' h1 h2 h3 h4 h5 h6
    have w0 : Wd pt0 S0 H0 S0 H0 [] := Wd.start e0
    have hm0 : Mir.run (m_divisors_made p_parting) s0 = some (r, s') := hm0
    unfold m_divisors_made at hm0
    have sc := sc_divisors_made
    refine ⟨_, pss_cons (ps_set (i := 1) sc.nd rfl (by first | exact Or.inl rfl | exact Or.inr rfl) (pe_lst (pa_cons (pe_int) (pa_nil)))) (pss_cons (ps_for PassesOwn.never rfl (k_pit K (pv 0)) (k_gt K (pgs_cons (pg_name (i := 2) sc.nd rfl (by first | exact Or.inl rfl | exact Or.inr rfl)) (pgs_cons (pg_name (i := 3) sc.nd rfl (by first | exact Or.inl rfl | exact Or.inr rfl)) (pgs_nil)))) (pss_cons (ps_set (i := 4) sc.nd rfl (by first | exact Or.inl rfl | exact Or.inr rfl) (pe_lst (pa_nil))) (pss_cons (ps_for PassesOwn.never rfl (pi_range1 rfl T.n_range (pa_cons (pe_op op_add (pv 3) (pe_int)) pa_nil)) (pg_name (i := 5) sc.nd rfl (by first | exact Or.inl rfl | exact Or.inr rfl)) (pss_cons (ps_expr (pe_bm PySem.F.plainAttrs_list PySem.F.slot_list_extend PySem.F.type_list_extend mt_extend (pv 4) (pa_cons (pe_lc (own := [("d", 6)]) (g := (gName 6)) (tt := tYes) rfl sc.nd (k_pil K (pv 1)) (blkOk_by (N := ["parting", "found", "p", "k", "longer", "step", "d"]) (sc := defScope t_divisors_made) (by decide +kernel)) (fun _ _ _ _ _ => pg_name (i := 6) sc.nd rfl (by first | exact Or.inl rfl | exact Or.inr rfl)) (fun _ _ _ _ _ => pts_nil) (fun _ _ _ _ _ => pe_op op_mulX (pv 6) (pe_cG G0 (hr.mono (by decide)) gd rfl m0 F0.kp b0 pass0 (pa_cons (pv 2) (pa_cons (pv 5) (pa_nil)))))) pa_nil))) (pss_nil))) (pss_cons (ps_set (i := 1) sc.nd rfl (by first | exact Or.inl rfl | exact Or.inr rfl) (pv 4)) (pss_nil))))) (pss_cons (ps_ret (pe_callB (k_srt K) (by rfl) T.n_sorted (by decide +kernel) (pa_cons (pv 1) pa_nil))) (pss_nil))), ?_⟩
    refine q_set (fun v => [some v_parting, some v, none, none, none, none, none]) (fun _ => rfl) w0 p0 (EvL.frz (l_lstL (a_consL e_cI (a_nilL (R := rI))))) hm0 ?_
    intro found1 vfound9 S2 H3 s4 w5 p6 g8 rfound10 hm7
    have r_parting := Mo.mo g8.s r_parting
    refine q_for (p := pt0) w5 p6 (i_T (e_var rfl r_parting)) (g_tp (gq_cons (g_nm (R := rI)) (gq_one (g_nm (R := rI))))) hm7 (fun Sb12 st11 σ S' H' s' => Ex Sb12 S' ∧ (∃ (vfound_ : V) (xp_ : Option V) (xk_ : Option V) (xlonger_ : Option V) (xstep_ : Option V), σ = [some v_parting, some vfound_, xp_, xk_, xlonger_, xstep_, none] ∧ Wd pt0 S0 H0 S' H' [] ∧ PotAt pt0 s' S' H' ∧ Ex S2 S' ∧ (rL (aAll rI)) st11 vfound_ S')) ?_ ?_ ?_ ?_ ?_
    · intro S14 H15 s16 w17 p18 g19
      have r_parting := Mo.mo g19.s r_parting
      have rfound10 := Mo.mo g19.s rfound10
      exact ⟨Ex.rf, ⟨_, _, _, _, _, rfl, w17, p18, g19.s, rfound10⟩⟩
    · rintro Sb12 st11 _ S29 H30 s31 ⟨ex32, ⟨vfound20, xp21, xk22, xlonger23, xstep24, rfl, w26, p27, eb28, rfound25⟩⟩
      exact ⟨ex32, w26.i, p27, ownOk0⟩
    · rintro Sb12 st11 _ S42 H43 s44 S45 H46 ⟨ex48, ⟨vfound33, xp34, xk35, xlonger36, xstep37, rfl, w39, p40, eb41, rfound38⟩⟩ g47
      exact ⟨ex48.tr g47.s, _, _, _, _, _, rfl, w39.go (Gm.up g47), PotAt.go p40 g47, eb41.tr g47.s, Mo.mo g47.s rfound38⟩
    · rintro Sb12 x13 st11 _ σ66 S58 H59 s60 st11_ s2_ D_ ⟨ex65, ⟨vfound49, xp50, xk51, xlonger52, xstep53, rfl, w55, p56, eb57, rfound54⟩⟩ hp hm61 nx62
      obtain ⟨_, ⟨_, rfl, rfl⟩, ⟨_, rfl, rfl⟩⟩ := hp
      have r_parting := Mo.mo eb57 r_parting
      refine q_setL (fun v => [some v_parting, some vfound49, some (.int x13.1), some (.int x13.2), some v, xstep53, none]) (fun _ => rfl) w55 p56 (l_lstL (a_nilL (R := rI))) hm61 ?_
      intro longer67 q75 vs76 S68 H69 s70 w71 p72 g74 rlonger77 hm73
      have rlonger77 : All rI _ _ _ := rlonger77
      have r_parting := Mo.mo g74.s r_parting
      have rfound54 := Mo.mo g74.s rfound54
      have eb57 := eb57.tr g74.s
      have ex65 := ex65.tr g74.s
      refine q_for (p := pt0) w71 p72 (i_R1 (e_add (e_var (R := rI) rfl rfl) e_cI)) (g_nm (R := rI)) hm73 (fun Sb79 st78 σ S' H' s' => Ex Sb79 S' ∧ (∃ (qlonger_ : Addr) (uslonger_ : List V) (xstep_ : Option V), σ = [some v_parting, some vfound49, some (.int x13.1), some (.int x13.2), some (.ref qlonger_), xstep_, none] ∧ Wd pt0 S0 H0 S' H' [(qlonger_, .lst uslonger_)] ∧ PotAt pt0 s' S' H' ∧ Ex S68 S' ∧ All rI S' st78 uslonger_)) ?_ ?_ ?_ ?_ ?_
      · intro S81 H82 s83 w84 p85 g86
        have r_parting := Mo.mo g86.s r_parting
        have rfound54 := Mo.mo g86.s rfound54
        have rlonger77 := All.mo g86.s rlonger77
        have eb57 := eb57.tr g86.s
        have ex65 := ex65.tr g86.s
        exact ⟨Ex.rf, ⟨_, _, _, rfl, w84, p85, g86.s, rlonger77⟩⟩
      · rintro Sb79 st78 _ S94 H95 s96 ⟨ex97, ⟨qlonger87, uslonger88, xstep89, rfl, w91, p92, eb93, rlonger90⟩⟩
        exact ⟨ex97, w91.i, p92, ownOk0⟩
      · rintro Sb79 st78 _ S105 H106 s107 S108 H109 ⟨ex111, ⟨qlonger98, uslonger99, xstep100, rfl, w102, p103, eb104, rlonger101⟩⟩ g110
        exact ⟨ex111.tr g110.s, _, _, _, rfl, w102.go (Gm.up g110), PotAt.go p103 g110, eb104.tr g110.s, All.mo g110.s rlonger101⟩
      · rintro Sb79 x80 st78 _ σ127 S119 H120 s121 st78_ s2_ D_ ⟨ex126, ⟨qlonger112, uslonger113, xstep114, rfl, w116, p117, eb118, rlonger115⟩⟩ hp hm122 nx123
        obtain ⟨_, rfl, rfl⟩ := hp
        have r_parting := Mo.mo eb118 r_parting
        have rfound54 := Mo.mo eb118 rfound54
        have eb57 := eb57.tr eb118
        have ex65 := ex65.tr eb118
        refine q_ext (j := 0) w116 p117 rfl rfl rlonger115 (l_lc1 (γ := Int) (vs := [6]) (me := fun x128 k => Mir.lft (m_power_of x13.1 x80) >>= fun r131 => Mir.lft (grd (Sm x128 ∧ Sm r131)) >>= fun _ => k (x128 * r131)) (R' := rI) (i_L (K := K) (e_var rfl rfound54)) ownOk0 (g_nm (R := rI)) (fun x σ' S hp => by obtain ⟨_, rfl, _⟩ := hp; rfl) (fun x128 σ' S1 H1 g129 hp => by have w130 := w116.go g129; obtain ⟨_, rfl, rfl⟩ := hp; have r_parting := Mo.mo g129.s r_parting; have rfound54 := Mo.mo g129.s rfound54; have rlonger115 := All.mo g129.s rlonger115; exact (e_mul (e_var (R := rI) rfl rfl) (Ev.eta (e_call (E := E0) (fm := fm_power_of) (R := rI) (a_cons (e_var (R := rI) rfl rfl) (a_one (e_var (R := rI) rfl rfl))))))) pm_nm) hm122 ?_
        intro longer133 vs134 S136 H137 s138 w139 p140 e142 rlonger135 hm141
        have r_parting := Mo.mo e142 r_parting
        have rfound54 := Mo.mo e142 rfound54
        have eb57 := eb57.tr e142
        have ex65 := ex65.tr e142
        have eb118 := eb118.tr e142
        have ex126 := ex126.tr e142
        cases run_of_pure hm141
        exact (nx123 _ _ _ ⟨ex126, ⟨_, _, _, rfl, w139, p140, eb118, rlonger135⟩⟩).1
      · rintro Sb79 st78 _ S151 H152 s153 ⟨_, ⟨qlonger144, uslonger145, xstep146, rfl, w148, p149, eb150, rlonger147⟩⟩ hm154
        have r_parting := Mo.mo eb150 r_parting
        have rfound54 := Mo.mo eb150 rfound54
        have eb57 := eb57.tr eb150
        have ex65 := ex65.tr eb150
        refine q_mv (i := 4) (j := 0) [some v_parting, some (.ref qlonger144), some (.int x13.1), some (.int x13.2), some (.ref qlonger144), xstep146, none] rfl w148 p149 rfl rfl rlonger147 hm154 ?_
        intro S155 w156 p157 ex158 r159 hm160
        have r_parting := Mo.mo ex158 r_parting
        have eb57 := eb57.tr ex158
        have ex65 := ex65.tr ex158
        cases run_of_pure hm160
        exact (nx62 _ _ _ ⟨ex65, ⟨_, _, _, _, _, rfl, w156, p157, eb57, r159⟩⟩).1
    · rintro Sb12 st11 _ S171 H172 s173 ⟨_, ⟨vfound162, xp163, xk164, xlonger165, xstep166, rfl, w168, p169, eb170, rfound167⟩⟩ hm174
      have r_parting := Mo.mo eb170 r_parting
      refine q_retL w168 p169 (l_srt (Ev.rd (e_var rfl rfound167))) hm174 ?_
      intro r182 q183 vs184 S175 H176 s177 w178 p179 g181 rr185 hm180
      cases run_of_pure hm180
      exact fin _ ⟨S175, q183, vs184, rfl, w178.g, p179, (w178.at (i := 0) rfl).2.2, (w178.at (i := 0) rfl).1, (w178.at (i := 0) rfl).2.1, rr185⟩
end
abbrev t_order_counts : Stmt := top 22
theorem sc_order_counts : FnScope ["n", "order", "parting", "many", "p", "k", "lengths", "found", "count", "length", "less", "own"] ["n"] (defScope t_order_counts) := ⟨rfl, rfl, rfl, by decide +kernel, rfl, by decide +kernel, by decide +kernel⟩
@[irreducible] noncomputable def m_order_counts (p_n : Int) : Option (List (Int × Int)) :=
Mir.lft (m_greatest_order p_n) >>= fun r285 => Mir.lft (m_primes_of r285) >>= fun r284 => bnd r284 fun parting1 =>
bnd (1 : Int) fun many11 =>
(lpS parting1 (fun (x23 : (Int × Int)) (st21 : Int) =>
Mir.lft (grd (Sm st21 ∧ Sm (x23.2 + (1 : Int)))) >>= fun _ => bnd (st21 * (x23.2 + (1 : Int))) fun many65 =>
pure many65) many11) >>= fun (st21 : Int) =>
if (decide ((500 : Int) < st21)) = true then
(Mir.lft (none : Option Unit) >>= fun _ => Mir.lft none)
else
(Mir.lft (m_round_lengths p_n) >>= fun r283 => bnd r283 fun lengths98 =>
Mir.lft (grd (List.length ([] : List (Int × Int)) ≤ 16000000)) >>= fun _ => bnd ([] : List (Int × Int)) fun found108 =>
Mir.lft (m_divisors_made parting1) >>= fun r282 => (lpS r282 (fun (x121 : Int) (st119 : (List (Int × Int))) =>
bnd (1 : Int) fun count175 =>
(lpS lengths98 (fun (x187 : Int) (st185 : Int) =>
Mir.lft (m_common_divisor x121 x187) >>= fun r236 => Mir.lft (grd (Sm st185 ∧ Sm r236)) >>= fun _ => bnd (st185 * r236) fun count226 =>
pure count226) count175) >>= fun (st185 : Int) =>
Mir.lft (grd (List.length st119 ≤ 16000000)) >>= fun _ => cmp st119 (fun x245 => Mir.lft (grd (0 < x245.1)) >>= fun _ => if (decide ((x121 % x245.1) = (0 : Int))) = true then pure (some x245.2) else pure none) >>= fun l258 => Mir.lft (grd (List.length st119 < 16000000)) >>= fun _ => bnd (st119 ++ [(x121, (st185 - (List.sum l258)))]) fun found248 =>
pure found248) found108) >>= fun (st119 : (List (Int × Int))) =>
bnd st119 fun r279 => pure r279)
noncomputable abbrev fm_order_counts : (Int) → Option (List (Int × Int)) := fun a => m_order_counts a
abbrev sp_order_counts (K : PySem.W.Frag) : Sp := spV F0 fm_order_counts (fun _ => (aOne rI)) (rT K (aAll (rT K (aCons rI (aOne rI)))))
section
variable {P : Program} {w : World} {K : PySem.W.Frag} {mg : Str → Option Value} {base : Heap}
theorem g_order_counts (T : Tx mg base) (D0 : Dk P w K mg base "primes_of" "primes_of" t_primes_of 4 ["number"] (sp_primes_of K)) (D1 : Dk P w K mg base "greatest_order" "greatest_order" t_greatest_order 6 ["n"] (sp_greatest_order K)) (D2 : Dk P w K mg base "round_lengths" "round_lengths" t_round_lengths 5 ["n"] (sp_round_lengths K)) (D3 : Dk P w K mg base "divisors_made" "divisors_made" t_divisors_made 2 ["parting"] (sp_divisors_made K)) (D4 : Dk P w K mg base "common_divisor" "common_divisor" t_common_divisor 1 ["one", "other"] (sp_common_divisor K)) {f : Addr} {fd : FuncData} (F : Fun K "order_counts" "order_counts" t_order_counts f fd) : FnG P w K mg base CX0 7 f fd ["n"] (sp_order_counts K) := by
  obtain ⟨f0, fd0, F0, m0, G0, b0⟩ := D0
  obtain ⟨f1, fd1, F1, m1, G1, b1⟩ := D1
  obtain ⟨f2, fd2, F2, m2, G2, b2⟩ := D2
  obtain ⟨f3, fd3, F3, m3, G3, b3⟩ := D3
  obtain ⟨f4, fd4, F4, m4, G4, b4⟩ := D4
  refine okG0 F sc_order_counts (fun vs H Q E h => ?_) (fun cdv A outer s0_ H0 vs Q E hr gd h => ?_)
  · obtain ⟨_, _, _, _, _, _, _, _, ⟨_, rfl, _⟩, _⟩ := h
    rfl
  · obtain ⟨_, p_n, S0, s0, r, s', e0, p0, ⟨_, rfl, rfl⟩, hm0, fin0⟩ := h
    have fin : ∀ v {H' : Hp}, (∃ S', Gm (pt0).M S0 H0 S' H' ∧ PotAt pt0 s' S' H' ∧ (rT K (aAll (rT K (aCons rI (aOne rI))))) r v S') → Q v H' := fun v {H'} ⟨S', h1, h2, h3⟩ => fin0 v S' H' h1 h2 h3
    have w0 : Wd pt0 S0 H0 S0 H0 [] := Wd.start e0
    have hm0 : Mir.run (m_order_counts p_n) s0 = some (r, s') := hm0
    unfold m_order_counts at hm0
    have sc := sc_order_counts
    refine ⟨_, pss_cons (ps_par (i := 2) (j := 3) rfl sc.nd rfl rfl (by decide) rfl rfl (pa_cons (pe_cG G0 (hr.mono (by decide)) gd rfl m0 F0.kp b0 pass0 (pa_cons (pe_cG G1 (hr.mono (by decide)) gd rfl m1 F1.kp b1 pass0 (pa_cons (pv 0) (pa_nil))) (pa_nil))) (pa_cons (pe_int) (pa_nil))) (by rfl)) (pss_cons (ps_for PassesOwn.never rfl (k_pit K (pv 2)) (k_gt K (pgs_cons (pg_name (i := 4) sc.nd rfl (by first | exact Or.inl rfl | exact Or.inr rfl)) (pgs_cons (pg_name (i := 5) sc.nd rfl (by first | exact Or.inl rfl | exact Or.inr rfl)) (pgs_nil)))) (pss_cons (ps_set (i := 3) sc.nd rfl (by first | exact Or.inl rfl | exact Or.inr rfl) (pe_op op_mulX (pv 3) (pe_op op_add (pv 5) (pe_int)))) (pss_nil))) (pss_cons (ps_if (pt_cmpR op_gt (pv 3) (pe_glob (v := .int 500) rfl T.c_MAX_LISTED.choose_spec ⟨_, rfl⟩) (nomark _)) (pss_cons (ps_dead) (pss_nil)) (pss_nil)) (pss_cons (ps_par (i := 6) (j := 7) rfl sc.nd rfl rfl (by decide) rfl rfl (pa_cons (pe_cG G2 (hr.mono (by decide)) gd rfl m2 F2.kp b2 pass0 (pa_cons (pv 0) (pa_nil))) (pa_cons (pe_lst (pa_nil)) (pa_nil))) (by rfl)) (pss_cons (ps_for PassesOwn.never rfl (k_pil K (pe_cG G3 (hr.mono (by decide)) gd rfl m3 F3.kp b3 pass0 (pa_cons (pv 2) (pa_nil)))) (pg_name (i := 1) sc.nd rfl (by first | exact Or.inl rfl | exact Or.inr rfl)) (pss_cons (ps_set (i := 8) sc.nd rfl (by first | exact Or.inl rfl | exact Or.inr rfl) (pe_int)) (pss_cons (ps_for PassesOwn.never rfl (k_pil K (pv 6)) (pg_name (i := 9) sc.nd rfl (by first | exact Or.inl rfl | exact Or.inr rfl)) (pss_cons (ps_set (i := 8) sc.nd rfl (by first | exact Or.inl rfl | exact Or.inr rfl) (pe_op op_mulX (pv 8) (pe_cG G4 (hr.mono (by decide)) gd rfl m4 F4.kp b4 pass0 (pa_cons (pv 1) (pa_cons (pv 9) (pa_nil)))))) (pss_nil))) (pss_cons (ps_expr (pe_bm PySem.F.plainAttrs_list PySem.F.slot_list_append PySem.F.type_list_append mt_append (pv 7) (pa_cons (pe_tup (pa_cons (pv 1) (pa_cons (pe_op op_sub (pv 8) (pe_callB (k_sum K) (by rfl) T.n_sum (by decide +kernel) (pa_cons (pe_lc (own := [("less", 10), ("own", 11)]) (g := (gTup K 2 (gCons (gName 10) (gCons (gName 11) gNil)))) rfl sc.nd (k_pil K (pv 7)) (blkOk_by (N := ["n", "order", "parting", "many", "p", "k", "lengths", "found", "count", "length", "less", "own"]) (sc := defScope t_order_counts) (by decide +kernel)) (fun _ _ _ _ _ => k_gt K (pgs_cons (pg_name (i := 10) sc.nd rfl (by first | exact Or.inl rfl | exact Or.inr rfl)) (pgs_cons (pg_name (i := 11) sc.nd rfl (by first | exact Or.inl rfl | exact Or.inr rfl)) (pgs_nil)))) (fun _ _ _ _ _ => pts_one (pt_cmpR op_eq (pe_op op_mod (pv 1) (pv 10)) (pe_int) (nomark _))) (fun _ _ _ _ _ => pv 11)) pa_nil))) (pa_nil)))) pa_nil))) (pss_nil))))) (pss_cons (ps_ret (pe_callTy (k_tupOf K) (by rfl) T.n_tuple (by decide +kernel) (pa_cons (pv 7) pa_nil))) (pss_nil)))))), ?_⟩
    refine par_go ?_
    refine x_ev w0 p0 (Ev.eta (e_call (E := E0) (fm := fm_primes_of) (R := (rT K (aAll (rT K (aCons rI (aOne rI)))))) (a_one (Ev.eta (e_call (E := E0) (fm := fm_greatest_order) (R := rI) (a_one (e_var (R := rI) rfl rfl))))))) hm0 ?_
    intro parting1 vparting9 S2 H3 s4 w5 p6 g8 rparting10 hm7
    refine x_ev w5 p6 e_cI hm7 ?_
    intro many11 vmany19 S12 H13 s14 w15 p16 g18 rmany20 hm17
    cases (show vmany19 = .int many11 from rmany20)
    have rparting10 := Mo.mo g18.s rparting10
    refine par_end [some (.int p_n), none, some vparting9, some (.int many11), none, none, none, none, none, none, none, none] rfl ?_
    refine q_for (p := pt0) w15 p16 (i_T (e_var rfl rparting10)) (g_tp (gq_cons (g_nm (R := rI)) (gq_one (g_nm (R := rI))))) hm17 (fun Sb22 st21 σ S' H' s' => Ex Sb22 S' ∧ (∃ (xp_ : Option V) (xk_ : Option V), σ = [some (.int p_n), none, some vparting9, some (.int st21), xp_, xk_, none, none, none, none, none, none] ∧ Wd pt0 S0 H0 S' H' [] ∧ PotAt pt0 s' S' H' ∧ Ex S12 S')) ?_ ?_ ?_ ?_ ?_
    · intro S24 H25 s26 w27 p28 g29
      have rparting10 := Mo.mo g29.s rparting10
      exact ⟨Ex.rf, ⟨_, _, rfl, w27, p28, g29.s⟩⟩
    · rintro Sb22 st21 _ S35 H36 s37 ⟨ex38, ⟨xp30, xk31, rfl, w32, p33, eb34⟩⟩
      exact ⟨ex38, w32.i, p33, ownOk0⟩
    · rintro Sb22 st21 _ S44 H45 s46 S47 H48 ⟨ex50, ⟨xp39, xk40, rfl, w41, p42, eb43⟩⟩ g49
      exact ⟨ex50.tr g49.s, _, _, rfl, w41.go (Gm.up g49), PotAt.go p42 g49, eb43.tr g49.s⟩
    · rintro Sb22 x23 st21 _ σ64 S56 H57 s58 st21_ s2_ D_ ⟨ex63, ⟨xp51, xk52, rfl, w53, p54, eb55⟩⟩ hp hm59 nx60
      obtain ⟨_, ⟨_, rfl, rfl⟩, ⟨_, rfl, rfl⟩⟩ := hp
      have rparting10 := Mo.mo eb55 rparting10
      refine q_set (fun v => [some (.int p_n), none, some vparting9, some v, some (.int x23.1), some (.int x23.2), none, none, none, none, none, none]) (fun _ => rfl) w53 p54 (e_mul (e_var (R := rI) rfl rfl) (e_add (e_var (R := rI) rfl rfl) e_cI)) hm59 ?_
      intro many65 vmany73 S66 H67 s68 w69 p70 g72 rmany74 hm71
      cases (show vmany73 = .int many65 from rmany74)
      have rparting10 := Mo.mo g72.s rparting10
      have eb55 := eb55.tr g72.s
      have ex63 := ex63.tr g72.s
      cases run_of_pure hm71
      exact (nx60 _ _ _ ⟨ex63, ⟨_, _, rfl, w69, p70, eb55⟩⟩).1
    · rintro Sb22 st21 _ S80 H81 s82 ⟨_, ⟨xp75, xk76, rfl, w77, p78, eb79⟩⟩ hm83
      have rparting10 := Mo.mo eb79 rparting10
      refine q_if w77 p78 (t_Test (e_gt (e_var (R := rI) rfl rfl) e_cI)) hm83 ?_ ?_
      · intro S84 H85 s86 w87 p88 g89 hm90
        have rparting10 := Mo.mo g89.s rparting10
        exact q_dead hm90
      · intro S91 H92 s93 w94 p95 g96 hm97
        have rparting10 := Mo.mo g96.s rparting10
        refine nx_done ?_
        refine par_go ?_
        refine x_ev w94 p95 (EvL.frz (EvL.eta (l_call (E := E0) (fm := fm_round_lengths) (R := (aAll rI)) (a_one (e_var (R := rI) rfl rfl))))) hm97 ?_
        intro lengths98 vlengths106 S99 H100 s101 w102 p103 g105 rlengths107 hm104
        have rparting10 := Mo.mo g105.s rparting10
        refine x_evL w102 p103 (l_lstL (a_nilL (R := (rT K (aCons rI (aOne rI)))))) hm104 ?_
        intro found108 q116 vs117 S109 H110 s111 w112 p113 g115 rfound118 hm114
        have rfound118 : All (rT K (aCons rI (aOne rI))) _ _ _ := rfound118
        have rparting10 := Mo.mo g115.s rparting10
        have rlengths107 := Mo.mo g115.s rlengths107
        refine par_end [some (.int p_n), none, some vparting9, some (.int st21), xp75, xk76, some vlengths106, some (.ref q116), none, none, none, none] rfl ?_
        refine q_for (p := pt0) w112 p113 (i_L (K := K) (EvL.frz (EvL.eta (l_call (E := E0) (fm := fm_divisors_made) (R := (aAll rI)) (a_one (e_var rfl rparting10)))))) (g_nm (R := rI)) hm114 (fun Sb120 st119 σ S' H' s' => Ex Sb120 S' ∧ (∃ (xorder_ : Option V) (qfound_ : Addr) (usfound_ : List V) (xcount_ : Option V) (xlength_ : Option V), σ = [some (.int p_n), xorder_, some vparting9, some (.int st21), xp75, xk76, some vlengths106, some (.ref qfound_), xcount_, xlength_, none, none] ∧ Wd pt0 S0 H0 S' H' [(qfound_, .lst usfound_)] ∧ PotAt pt0 s' S' H' ∧ Ex S109 S' ∧ All (rT K (aCons rI (aOne rI))) S' st119 usfound_)) ?_ ?_ ?_ ?_ ?_
        · intro S122 H123 s124 w125 p126 g127
          have rparting10 := Mo.mo g127.s rparting10
          have rlengths107 := Mo.mo g127.s rlengths107
          have rfound118 := All.mo g127.s rfound118
          exact ⟨Ex.rf, ⟨_, _, _, _, _, rfl, w125, p126, g127.s, rfound118⟩⟩
        · rintro Sb120 st119 _ S137 H138 s139 ⟨ex140, ⟨xorder128, qfound129, usfound130, xcount131, xlength132, rfl, w134, p135, eb136, rfound133⟩⟩
          exact ⟨ex140, w134.i, p135, ownOk0⟩
        · rintro Sb120 st119 _ S150 H151 s152 S153 H154 ⟨ex156, ⟨xorder141, qfound142, usfound143, xcount144, xlength145, rfl, w147, p148, eb149, rfound146⟩⟩ g155
          exact ⟨ex156.tr g155.s, _, _, _, _, _, rfl, w147.go (Gm.up g155), PotAt.go p148 g155, eb149.tr g155.s, All.mo g155.s rfound146⟩
        · rintro Sb120 x121 st119 _ σ174 S166 H167 s168 st119_ s2_ D_ ⟨ex173, ⟨xorder157, qfound158, usfound159, xcount160, xlength161, rfl, w163, p164, eb165, rfound162⟩⟩ hp hm169 nx170
          obtain ⟨_, rfl, rfl⟩ := hp
          have rparting10 := Mo.mo eb165 rparting10
          have rlengths107 := Mo.mo eb165 rlengths107
          refine q_set (fun v => [some (.int p_n), some (.int x121), some vparting9, some (.int st21), xp75, xk76, some vlengths106, some (.ref qfound158), some v, xlength161, none, none]) (fun _ => rfl) w163 p164 e_cI hm169 ?_
          intro count175 vcount183 S176 H177 s178 w179 p180 g182 rcount184 hm181
          cases (show vcount183 = .int count175 from rcount184)
          have rparting10 := Mo.mo g182.s rparting10
          have rlengths107 := Mo.mo g182.s rlengths107
          have rfound162 := All.mo g182.s rfound162
          have eb165 := eb165.tr g182.s
          have ex173 := ex173.tr g182.s
          refine q_for (p := pt0) w179 p180 (i_L (K := K) (e_var rfl rlengths107)) (g_nm (R := rI)) hm181 (fun Sb186 st185 σ S' H' s' => Ex Sb186 S' ∧ (∃ (xlength_ : Option V), σ = [some (.int p_n), some (.int x121), some vparting9, some (.int st21), xp75, xk76, some vlengths106, some (.ref qfound158), some (.int st185), xlength_, none, none] ∧ Wd pt0 S0 H0 S' H' [(qfound158, .lst usfound159)] ∧ PotAt pt0 s' S' H' ∧ Ex S176 S')) ?_ ?_ ?_ ?_ ?_
          · intro S188 H189 s190 w191 p192 g193
            have rparting10 := Mo.mo g193.s rparting10
            have rlengths107 := Mo.mo g193.s rlengths107
            have rfound162 := All.mo g193.s rfound162
            have eb165 := eb165.tr g193.s
            have ex173 := ex173.tr g193.s
            exact ⟨Ex.rf, ⟨_, rfl, w191, p192, g193.s⟩⟩
          · rintro Sb186 st185 _ S198 H199 s200 ⟨ex201, ⟨xlength194, rfl, w195, p196, eb197⟩⟩
            exact ⟨ex201, w195.i, p196, ownOk0⟩
          · rintro Sb186 st185 _ S206 H207 s208 S209 H210 ⟨ex212, ⟨xlength202, rfl, w203, p204, eb205⟩⟩ g211
            exact ⟨ex212.tr g211.s, _, rfl, w203.go (Gm.up g211), PotAt.go p204 g211, eb205.tr g211.s⟩
          · rintro Sb186 x187 st185 _ σ225 S217 H218 s219 st185_ s2_ D_ ⟨ex224, ⟨xlength213, rfl, w214, p215, eb216⟩⟩ hp hm220 nx221
            obtain ⟨_, rfl, rfl⟩ := hp
            have rparting10 := Mo.mo eb216 rparting10
            have rlengths107 := Mo.mo eb216 rlengths107
            have rfound162 := All.mo eb216 rfound162
            have eb165 := eb165.tr eb216
            have ex173 := ex173.tr eb216
            refine q_set (fun v => [some (.int p_n), some (.int x121), some vparting9, some (.int st21), xp75, xk76, some vlengths106, some (.ref qfound158), some v, some (.int x187), none, none]) (fun _ => rfl) w214 p215 (e_mul (e_var (R := rI) rfl rfl) (Ev.eta (e_call (E := E0) (fm := fm_common_divisor) (R := rI) (a_cons (e_var (R := rI) rfl rfl) (a_one (e_var (R := rI) rfl rfl)))))) hm220 ?_
            intro count226 vcount234 S227 H228 s229 w230 p231 g233 rcount235 hm232
            cases (show vcount234 = .int count226 from rcount235)
            have rparting10 := Mo.mo g233.s rparting10
            have rlengths107 := Mo.mo g233.s rlengths107
            have rfound162 := All.mo g233.s rfound162
            have eb165 := eb165.tr g233.s
            have ex173 := ex173.tr g233.s
            have eb216 := eb216.tr g233.s
            have ex224 := ex224.tr g233.s
            cases run_of_pure hm232
            exact (nx221 _ _ _ ⟨ex224, ⟨_, rfl, w230, p231, eb216⟩⟩).1
          · rintro Sb186 st185 _ S241 H242 s243 ⟨_, ⟨xlength237, rfl, w238, p239, eb240⟩⟩ hm244
            have rparting10 := Mo.mo eb240 rparting10
            have rlengths107 := Mo.mo eb240 rlengths107
            have rfound162 := All.mo eb240 rfound162
            have eb165 := eb165.tr eb240
            have ex173 := ex173.tr eb240
            refine q_app (j := 0) w238 p239 rfl rfl rfound162 (e_tup (K := K) (a_cons (e_var (R := rI) rfl rfl) (a_one (e_sub (e_var (R := rI) rfl rfl) (c_sum (EvL.rd (l_lc (γ := Int) (vs := [10, 11]) (mt := fun x245 k => Mir.lft (grd (0 < x245.1)) >>= fun _ => k (decide ((x121 % x245.1) = (0 : Int)))) (me := fun x245 k => k x245.2) (R' := rI) (i_own (K := K) rfl (w238.at (i := 0) rfl).1 (w238.nmAt (i := 0) rfl) rfound162) (ownOk1 (w238.at (i := 0) rfl).1 (w238.nmAt (i := 0) rfl)) (g_tp (gq_cons (g_nm (R := rI)) (gq_one (g_nm (R := rI))))) (fun x σ' S hp => by obtain ⟨_, ⟨_, rfl, _⟩, ⟨_, rfl, _⟩⟩ := hp; rfl) (fun x245 σ' S1 H1 g246 hp => by have w247 := w238.go g246; obtain ⟨_, ⟨_, rfl, rfl⟩, ⟨_, rfl, rfl⟩⟩ := hp; have rparting10 := Mo.mo g246.s rparting10; have rlengths107 := Mo.mo g246.s rlengths107; have rfound162 := All.mo g246.s rfound162; exact (t_Test (e_eq (e_mod (e_var (R := rI) rfl rfl) (e_var (R := rI) rfl rfl)) e_cI))) (fun x245 σ' S1 H1 g246 hp => by have w247 := w238.go g246; obtain ⟨_, ⟨_, rfl, rfl⟩, ⟨_, rfl, rfl⟩⟩ := hp; have rparting10 := Mo.mo g246.s rparting10; have rlengths107 := Mo.mo g246.s rlengths107; have rfound162 := All.mo g246.s rfound162; exact (e_var (R := rI) rfl rfl)) (pm_cons pm_nm pm_nm))))))) (arN_cons arN_one) (by decide)) hm244 ?_
            intro found248 vs249 S251 H252 s253 w254 p255 e257 rfound250 hm256
            have rparting10 := Mo.mo e257 rparting10
            have rlengths107 := Mo.mo e257 rlengths107
            have eb165 := eb165.tr e257
            have ex173 := ex173.tr e257
            cases run_of_pure hm256
            exact (nx170 _ _ _ ⟨ex173, ⟨_, _, _, _, _, rfl, w254, p255, eb165, rfound250⟩⟩).1
        · rintro Sb120 st119 _ S268 H269 s270 ⟨_, ⟨xorder259, qfound260, usfound261, xcount262, xlength263, rfl, w265, p266, eb267, rfound264⟩⟩ hm271
          have rparting10 := Mo.mo eb267 rparting10
          have rlengths107 := Mo.mo eb267 rlengths107
          refine q_ret w265 p266 (c_tup (K := K) (w_own (A := (aAll (rT K (aCons rI (aOne rI))))) (j := 0) w265 rfl rfl rfound264)) hm271 ?_
          intro r279 v280 S272 H273 s274 w275 p276 g278 rr281 hm277
          cases run_of_pure hm277
          exact fin _ ⟨S272, w275.g, p276, rr281⟩
end
abbrev t_figure_round : Stmt := top 24
theorem sc_figure_round : FnScope ["n", "base", "part", "t", "here"] ["n", "base"] (defScope t_figure_round) := ⟨rfl, rfl, rfl, by decide +kernel, rfl, by decide +kernel, by decide +kernel⟩
@[irreducible] noncomputable def m_figure_round (p_n : Int) (p_base : Int) : Option (Int × Int) :=
bnd p_n fun part1 =>
(whS many (fun (st11 : Int) k => Mir.lft (m_common_divisor st11 p_base) >>= fun r156 => k (decide ((1 : Int) < r156))) (fun (st11 : Int) =>
Mir.lft (m_common_divisor st11 p_base) >>= fun r52 => Mir.lft (grd (Dv r52)) >>= fun _ => bnd (st11 / r52) fun part42 =>
pure part42) part1) >>= fun (st11 : Int) =>
bnd (0 : Int) fun t60 =>
bnd st11 fun here70 =>
(whS many (fun (st80 : Int × Int) k => Mir.lft (grd (0 < p_n)) >>= fun _ => k (!decide ((st80.2 % p_n) = (0 : Int)))) (fun (st80 : Int × Int) =>
bnd (st80.1 + (1 : Int)) fun t111 =>
Mir.lft (grd (Sm st80.2 ∧ Sm p_base)) >>= fun _ => bnd (st80.2 * p_base) fun here121 =>
pure (t111, here121)) (t60, here70)) >>= fun (st80 : Int × Int) =>
(if (decide ((1 : Int) < st11)) = true then Mir.lft (m_power_order p_base st11) >>= fun r149 => pure r149 else pure (0 : Int)) >>= fun c148 => bnd (st80.1, c148) fun r145 => pure r145
noncomputable abbrev fm_figure_round : (Int × Int) → Option (Int × Int) := fun (a0, a1) => m_figure_round a0 a1
abbrev sp_figure_round (K : PySem.W.Frag) : Sp := spV F0 fm_figure_round (fun _ => (aCons rI (aOne rI))) (rT K (aCons rI (aOne rI)))
section
variable {P : Program} {w : World} {K : PySem.W.Frag} {mg : Str → Option Value} {base : Heap}
theorem g_figure_round (T : Tx mg base) (D0 : Dk P w K mg base "common_divisor" "common_divisor" t_common_divisor 1 ["one", "other"] (sp_common_divisor K)) (D1 : Dk P w K mg base "power_order" "power_order" t_power_order 7 ["a", "n"] (sp_power_order K)) {f : Addr} {fd : FuncData} (F : Fun K "figure_round" "figure_round" t_figure_round f fd) : FnG P w K mg base CX0 8 f fd ["n", "base"] (sp_figure_round K) := by
  obtain ⟨f0, fd0, F0, m0, G0, b0⟩ := D0
  obtain ⟨f1, fd1, F1, m1, G1, b1⟩ := D1
  refine okG0 F sc_figure_round (fun vs H Q E h => ?_) (fun cdv A outer s0_ H0 vs Q E hr gd h => ?_)
  · obtain ⟨_, _, _, _, _, _, _, _, ⟨_, _, rfl, _, ⟨_, rfl, _⟩⟩, _⟩ := h
    rfl
  · obtain ⟨_, a, S0, s0, r, s', e0, p0, ⟨_, _, rfl, rfl, ⟨_, rfl, rfl⟩⟩, hm0, fin0⟩ := h
    obtain ⟨p_n, p_base⟩ := a
    have fin : ∀ v {H' : Hp}, (∃ S', Gm (pt0).M S0 H0 S' H' ∧ PotAt pt0 s' S' H' ∧ (rT K (aCons rI (aOne rI))) r v S') → Q v H' := fun v {H'} ⟨S', h1, h2, h3⟩ => fin0 v S' H' h1 h2 h3
    have w0 : Wd pt0 S0 H0 S0 H0 [] := Wd.start e0
    have hm0 : Mir.run (m_figure_round p_n p_base) s0 = some (r, s') := hm0
    unfold m_figure_round at hm0
    have sc := sc_figure_round
    refine ⟨_, pss_cons (ps_set (i := 2) sc.nd rfl (by first | exact Or.inl rfl | exact Or.inr rfl) (pv 0)) (pss_cons (ps_while PassesOwn.never (pt_cmpR op_gt (pe_cG G0 (hr.mono (by decide)) gd rfl m0 F0.kp b0 pass0 (pa_cons (pv 2) (pa_cons (pv 1) (pa_nil)))) (pe_int) (nomark _)) (pss_cons (ps_set (i := 2) sc.nd rfl (by first | exact Or.inl rfl | exact Or.inr rfl) (pe_op op_fdivW (pv 2) (pe_cG G0 (hr.mono (by decide)) gd rfl m0 F0.kp b0 pass0 (pa_cons (pv 2) (pa_cons (pv 1) (pa_nil)))))) (pss_nil))) (pss_cons (ps_par (i := 3) (j := 4) rfl sc.nd rfl rfl (by decide) rfl rfl (pa_cons (pe_int) (pa_cons (pv 2) (pa_nil))) (by rfl)) (pss_cons (ps_while PassesOwn.never (pt_cmpR op_ne (pe_op op_mod (pv 4) (pv 0)) (pe_int) (nomark _)) (pss_cons (ps_par (i := 3) (j := 4) rfl sc.nd rfl rfl (by decide) rfl rfl (pa_cons (pe_op op_add (pv 3) (pe_int)) (pa_cons (pe_op op_mulX (pv 4) (pv 1)) (pa_nil))) (by rfl)) (pss_nil))) (pss_cons (ps_ret (pe_tup (pa_cons (pv 3) (pa_cons (pe_ifExp (pt_cmpR op_gt (pv 2) (pe_int) (nomark _)) (pe_cG G1 (hr.mono (by decide)) gd rfl m1 F1.kp b1 pass0 (pa_cons (pv 1) (pa_cons (pv 2) (pa_nil)))) (pe_int)) (pa_nil))))) (pss_nil))))), ?_⟩
    refine q_set (fun v => [some (.int p_n), some (.int p_base), some v, none, none]) (fun _ => rfl) w0 p0 (e_var (R := rI) rfl rfl) hm0 ?_
    intro part1 vpart9 S2 H3 s4 w5 p6 g8 rpart10 hm7
    cases (show vpart9 = .int part1 from rpart10)
    refine q_wh (p := pt0) (fun st11 σ S' H' s' => σ = [some (.int p_n), some (.int p_base), some (.int st11), none, none] ∧ Wd pt0 S0 H0 S' H' [] ∧ PotAt pt0 s' S' H' ∧ Ex S2 S') ⟨rfl, w5, p6, Ex.rf⟩ hm7 ?_ ?_ ?_ ?_
    · rintro st11 _ S17 H18 s19 ⟨rfl, w14, p15, eb16⟩
      exact ⟨p15, w14.i, (t_Test (e_gt (Ev.eta (e_call (E := E0) (fm := fm_common_divisor) (R := rI) (a_cons (e_var (R := rI) rfl rfl) (a_one (e_var (R := rI) rfl rfl))))) e_cI))⟩
    · rintro st11 _ S23 H24 s25 S26 H27 s28 ⟨rfl, w20, p21, eb22⟩ g29 p30
      exact ⟨rfl, w20.go g29, p30, eb22.tr g29.s⟩
    · rintro st11 _ S34 H35 s36 st11_ s2_ D_ ⟨rfl, w31, p32, eb33⟩ hm37 nx38
      refine q_set (fun v => [some (.int p_n), some (.int p_base), some v, none, none]) (fun _ => rfl) w31 p32 (e_fdiv (e_var (R := rI) rfl rfl) (Ev.eta (e_call (E := E0) (fm := fm_common_divisor) (R := rI) (a_cons (e_var (R := rI) rfl rfl) (a_one (e_var (R := rI) rfl rfl)))))) hm37 ?_
      intro part42 vpart50 S43 H44 s45 w46 p47 g49 rpart51 hm48
      cases (show vpart50 = .int part42 from rpart51)
      have eb33 := eb33.tr g49.s
      cases run_of_pure hm48
      exact (nx38 _ _ _ ⟨rfl, w46, p47, eb33⟩).1
    · rintro st11 _ S56 H57 s58 ⟨rfl, w53, p54, eb55⟩ hm59
      refine par_go ?_
      refine x_ev w53 p54 e_cI hm59 ?_
      intro t60 vt68 S61 H62 s63 w64 p65 g67 rt69 hm66
      cases (show vt68 = .int t60 from rt69)
      refine x_ev w64 p65 (e_var (R := rI) rfl rfl) hm66 ?_
      intro here70 vhere78 S71 H72 s73 w74 p75 g77 rhere79 hm76
      cases (show vhere78 = .int here70 from rhere79)
      refine par_end [some (.int p_n), some (.int p_base), some (.int st11), some (.int t60), some (.int here70)] rfl ?_
      refine q_wh (p := pt0) (fun st80 σ S' H' s' => σ = [some (.int p_n), some (.int p_base), some (.int st11), some (.int st80.1), some (.int st80.2)] ∧ Wd pt0 S0 H0 S' H' [] ∧ PotAt pt0 s' S' H' ∧ Ex S71 S') ⟨rfl, w74, p75, Ex.rf⟩ hm76 ?_ ?_ ?_ ?_
      · rintro st80 _ S86 H87 s88 ⟨rfl, w83, p84, eb85⟩
        exact ⟨p84, w83.i, (t_Test (e_ne (e_mod (e_var (R := rI) rfl rfl) (e_var (R := rI) rfl rfl)) e_cI))⟩
      · rintro st80 _ S92 H93 s94 S95 H96 s97 ⟨rfl, w89, p90, eb91⟩ g98 p99
        exact ⟨rfl, w89.go g98, p99, eb91.tr g98.s⟩
      · rintro st80 _ S103 H104 s105 st80_ s2_ D_ ⟨rfl, w100, p101, eb102⟩ hm106 nx107
        refine par_go ?_
        refine x_ev w100 p101 (e_add (e_var (R := rI) rfl rfl) e_cI) hm106 ?_
        intro t111 vt119 S112 H113 s114 w115 p116 g118 rt120 hm117
        cases (show vt119 = .int t111 from rt120)
        have eb102 := eb102.tr g118.s
        refine x_ev w115 p116 (e_mul (e_var (R := rI) rfl rfl) (e_var (R := rI) rfl rfl)) hm117 ?_
        intro here121 vhere129 S122 H123 s124 w125 p126 g128 rhere130 hm127
        cases (show vhere129 = .int here121 from rhere130)
        have eb102 := eb102.tr g128.s
        refine par_end [some (.int p_n), some (.int p_base), some (.int st11), some (.int t111), some (.int here121)] rfl ?_
        cases run_of_pure hm127
        exact (nx107 _ _ _ ⟨rfl, w125, p126, eb102⟩).1
      · rintro st80 _ S134 H135 s136 ⟨rfl, w131, p132, eb133⟩ hm137
        refine q_ret w131 p132 (e_tup (K := K) (a_cons (e_var (R := rI) rfl rfl) (a_one (e_if (R := rI) (t_Test (e_gt (e_var (R := rI) rfl rfl) e_cI)) (Ev.eta (e_call (E := E0) (fm := fm_power_order) (R := rI) (a_cons (e_var (R := rI) rfl rfl) (a_one (e_var (R := rI) rfl rfl))))) e_cI))) (arN_cons arN_one) (by decide)) hm137 ?_
        intro r145 v146 S138 H139 s140 w141 p142 g144 rr147 hm143
        cases run_of_pure hm143
        exact fin _ ⟨S138, w141.g, p142, rr147⟩
end
abbrev t_figures_of : Stmt := top 25
theorem sc_figures_of : FnScope ["above", "n", "base", "many", "step", "found", "rest"] ["above", "n", "base", "many"] (defScope t_figures_of) := ⟨rfl, rfl, rfl, by decide +kernel, rfl, by decide +kernel, by decide +kernel⟩
@[irreducible] noncomputable def m_figures_of (p_above : Int) (p_n : Int) (p_base : Int) (p_many : Int) : Option (List Int) :=
Mir.lft (grd (List.length ([] : List Int) ≤ 16000000)) >>= fun _ => bnd ([] : List Int) fun found1 =>
bnd p_above fun rest12 =>
Mir.lft (grd (RgB p_many)) >>= fun _ => (lpS (rng 0 p_many) (fun (x24 : Int) (st22 : (List Int) × Int) =>
Mir.lft (grd (Sm p_base ∧ Sm st22.2)) >>= fun _ => Mir.lft (grd (Dv p_n)) >>= fun _ => Mir.lft (grd (List.length st22.1 < 16000000)) >>= fun _ => bnd (st22.1 ++ [((p_base * st22.2) / p_n)]) fun found72 =>
Mir.lft (grd (Sm p_base ∧ Sm st22.2)) >>= fun _ => Mir.lft (grd (0 < p_n)) >>= fun _ => bnd ((p_base * st22.2) % p_n) fun rest82 =>
pure (found72, rest82)) (found1, rest12)) >>= fun (st22 : (List Int) × Int) =>
bnd st22.1 fun r110 => pure r110
noncomputable abbrev fm_figures_of : (Int × Int × Int × Int) → Option (List Int) := fun (a0, a1, a2, a3) => m_figures_of a0 a1 a2 a3
abbrev sp_figures_of (K : PySem.W.Frag) : Sp := spV F0 fm_figures_of (fun _ => (aCons rI (aCons rI (aCons rI (aOne rI))))) (rT K (aAll rI))
section
variable {P : Program} {w : World} {K : PySem.W.Frag} {mg : Str → Option Value} {base : Heap}
theorem g_figures_of (T : Tx mg base)  {f : Addr} {fd : FuncData} (F : Fun K "figures_of" "figures_of" t_figures_of f fd) : FnG P w K mg base CX0 1 f fd ["above", "n", "base", "many"] (sp_figures_of K) := by
  refine okG0 F sc_figures_of (fun vs H Q E h => ?_) (fun cdv A outer s0_ H0 vs Q E hr gd h => ?_)
  · obtain ⟨_, _, _, _, _, _, _, _, ⟨_, _, rfl, _, ⟨_, _, rfl, _, ⟨_, _, rfl, _, ⟨_, rfl, _⟩⟩⟩⟩, _⟩ := h
    rfl
  · obtain ⟨_, a, S0, s0, r, s', e0, p0, ⟨_, _, rfl, rfl, ⟨_, _, rfl, rfl, ⟨_, _, rfl, rfl, ⟨_, rfl, rfl⟩⟩⟩⟩, hm0, fin0⟩ := h
    obtain ⟨p_above, p_n, p_base, p_many⟩ := a
    have fin : ∀ v {H' : Hp}, (∃ S', Gm (pt0).M S0 H0 S' H' ∧ PotAt pt0 s' S' H' ∧ (rT K (aAll rI)) r v S') → Q v H' := fun v {H'} ⟨S', h1, h2, h3⟩ => fin0 v S' H' h1 h2 h3
    have w0 : Wd pt0 S0 H0 S0 H0 [] := Wd.start e0
    have hm0 : Mir.run (m_figures_of p_above p_n p_base p_many) s0 = some (r, s') := hm0
    unfold m_figures_of at hm0
    have sc := sc_figures_of
    refine ⟨_, pss_cons (ps_par (i := 5) (j := 6) rfl sc.nd rfl rfl (by decide) rfl rfl (pa_cons (pe_lst (pa_nil)) (pa_cons (pv 0) (pa_nil))) (by rfl)) (pss_cons (ps_for PassesOwn.never rfl (pi_range1 rfl T.n_range (pa_cons (pv 3) pa_nil)) (pg_name (i := 4) sc.nd rfl (by first | exact Or.inl rfl | exact Or.inr rfl)) (pss_cons (ps_expr (pe_bm PySem.F.plainAttrs_list PySem.F.slot_list_append PySem.F.type_list_append mt_append (pv 5) (pa_cons (pe_op op_fdivW (pe_op op_mulX (pv 2) (pv 6)) (pv 1)) pa_nil))) (pss_cons (ps_set (i := 6) sc.nd rfl (by first | exact Or.inl rfl | exact Or.inr rfl) (pe_op op_mod (pe_op op_mulX (pv 2) (pv 6)) (pv 1))) (pss_nil)))) (pss_cons (ps_ret (pe_callTy (k_tupOf K) (by rfl) T.n_tuple (by decide +kernel) (pa_cons (pv 5) pa_nil))) (pss_nil))), ?_⟩
    refine par_go ?_
    refine x_evL w0 p0 (l_lstL (a_nilL (R := rI))) hm0 ?_
    intro found1 q9 vs10 S2 H3 s4 w5 p6 g8 rfound11 hm7
    have rfound11 : All rI _ _ _ := rfound11
    refine x_ev w5 p6 (e_var (R := rI) rfl rfl) hm7 ?_
    intro rest12 vrest20 S13 H14 s15 w16 p17 g19 rrest21 hm18
    cases (show vrest20 = .int rest12 from rrest21)
    have rfound11 := All.mo g19.s rfound11
    refine par_end [some (.int p_above), some (.int p_n), some (.int p_base), some (.int p_many), none, some (.ref q9), some (.int rest12)] rfl ?_
    refine q_for (p := pt0) w16 p17 (i_R1 (e_var (R := rI) rfl rfl)) (g_nm (R := rI)) hm18 (fun Sb23 st22 σ S' H' s' => Ex Sb23 S' ∧ (∃ (xstep_ : Option V) (qfound_ : Addr) (usfound_ : List V), σ = [some (.int p_above), some (.int p_n), some (.int p_base), some (.int p_many), xstep_, some (.ref qfound_), some (.int st22.2)] ∧ Wd pt0 S0 H0 S' H' [(qfound_, .lst usfound_)] ∧ PotAt pt0 s' S' H' ∧ Ex S13 S' ∧ All rI S' st22.1 usfound_)) ?_ ?_ ?_ ?_ ?_
    · intro S25 H26 s27 w28 p29 g30
      have rfound11 := All.mo g30.s rfound11
      exact ⟨Ex.rf, ⟨_, _, _, rfl, w28, p29, g30.s, rfound11⟩⟩
    · rintro Sb23 st22 _ S38 H39 s40 ⟨ex41, ⟨xstep31, qfound32, usfound33, rfl, w35, p36, eb37, rfound34⟩⟩
      exact ⟨ex41, w35.i, p36, ownOk0⟩
    · rintro Sb23 st22 _ S49 H50 s51 S52 H53 ⟨ex55, ⟨xstep42, qfound43, usfound44, rfl, w46, p47, eb48, rfound45⟩⟩ g54
      exact ⟨ex55.tr g54.s, _, _, _, rfl, w46.go (Gm.up g54), PotAt.go p47 g54, eb48.tr g54.s, All.mo g54.s rfound45⟩
    · rintro Sb23 x24 st22 _ σ71 S63 H64 s65 st22_ s2_ D_ ⟨ex70, ⟨xstep56, qfound57, usfound58, rfl, w60, p61, eb62, rfound59⟩⟩ hp hm66 nx67
      obtain ⟨_, rfl, rfl⟩ := hp
      refine q_app (j := 0) w60 p61 rfl rfl rfound59 (e_fdiv (e_mul (e_var (R := rI) rfl rfl) (e_var (R := rI) rfl rfl)) (e_var (R := rI) rfl rfl)) hm66 ?_
      intro found72 vs73 S75 H76 s77 w78 p79 e81 rfound74 hm80
      have eb62 := eb62.tr e81
      have ex70 := ex70.tr e81
      refine q_set (fun v => [some (.int p_above), some (.int p_n), some (.int p_base), some (.int p_many), some (.int x24), some (.ref qfound57), some v]) (fun _ => rfl) w78 p79 (e_mod (e_mul (e_var (R := rI) rfl rfl) (e_var (R := rI) rfl rfl)) (e_var (R := rI) rfl rfl)) hm80 ?_
      intro rest82 vrest90 S83 H84 s85 w86 p87 g89 rrest91 hm88
      cases (show vrest90 = .int rest82 from rrest91)
      have rfound74 := All.mo g89.s rfound74
      have eb62 := eb62.tr g89.s
      have ex70 := ex70.tr g89.s
      cases run_of_pure hm88
      exact (nx67 _ _ _ ⟨ex70, ⟨_, _, _, rfl, w86, p87, eb62, rfound74⟩⟩).1
    · rintro Sb23 st22 _ S99 H100 s101 ⟨_, ⟨xstep92, qfound93, usfound94, rfl, w96, p97, eb98, rfound95⟩⟩ hm102
      refine q_ret w96 p97 (c_tup (K := K) (w_own (A := (aAll rI)) (j := 0) w96 rfl rfl rfound95)) hm102 ?_
      intro r110 v111 S103 H104 s105 w106 p107 g109 rr112 hm108
      cases run_of_pure hm108
      exact fin _ ⟨S103, w106.g, p107, rr112⟩
end
abbrev t_round_figures_of : Stmt := top 26
theorem sc_round_figures_of : FnScope ["above", "n", "base", "begin", "places", "found", "rest"] ["above", "n", "base"] (defScope t_round_figures_of) := ⟨rfl, rfl, rfl, by decide +kernel, rfl, by decide +kernel, by decide +kernel⟩
@[irreducible] noncomputable def m_round_figures_of (p_above : Int) (p_n : Int) (p_base : Int) : Option ((List Int) × (List Int)) :=
bnd ([] : (List (Int × Int))) fun places1 =>
Mir.lft (grd (List.length ([] : List Int) ≤ 16000000)) >>= fun _ => bnd ([] : List Int) fun found12 =>
bnd p_above fun rest23 =>
(whC many (fun (st33 : (List (Int × Int)) × (List Int) × Int) k => k ((!decide (st33.2.2 = (0 : Int))) && (!Option.isSome (dget st33.1 st33.2.2)))) (fun (st33 : (List (Int × Int)) × (List Int) × Int) =>
if (decide ((List.length st33.2.1 : Int) = (500 : Int))) = true then
(Mir.lft (none : Option Unit) >>= fun _ => Mir.lft none)
else
(Mir.lft (grd (List.length st33.1 < 16000000)) >>= fun _ => bnd (dput st33.1 st33.2.2 (List.length st33.2.1 : Int)) fun places97 =>
Mir.lft (grd (Sm p_base ∧ Sm st33.2.2)) >>= fun _ => Mir.lft (grd (Dv p_n)) >>= fun _ => Mir.lft (grd (List.length st33.2.1 < 16000000)) >>= fun _ => bnd (st33.2.1 ++ [((p_base * st33.2.2) / p_n)]) fun found107 =>
Mir.lft (grd (Sm p_base ∧ Sm st33.2.2)) >>= fun _ => Mir.lft (grd (0 < p_n)) >>= fun _ => bnd ((p_base * st33.2.2) % p_n) fun rest117 =>
pure (Ctl.go (places97, found107, rest117)))) (places1, found12, rest23)) >>= fun o => aft o (fun (st33 : (List (Int × Int)) × (List Int) × Int) =>
(if (!decide (st33.2.2 = (0 : Int))) = true then Mir.lft (dget st33.1 st33.2.2) >>= fun y161 => pure y161 else pure (List.length st33.2.1 : Int)) >>= fun c160 => bnd c160 fun begin140 =>
bnd ((cut st33.2.1 none (some begin140)), (cut st33.2.1 (some begin140) none)) fun r157 => pure r157) (fun r162 => pure r162)
noncomputable abbrev fm_round_figures_of : (Int × Int × Int) → Option ((List Int) × (List Int)) := fun (a0, a1, a2) => m_round_figures_of a0 a1 a2
abbrev sp_round_figures_of (K : PySem.W.Frag) : Sp := spV F0 fm_round_figures_of (fun _ => (aCons rI (aCons rI (aOne rI)))) (rT K (aCons (rT K (aAll rI)) (aOne (rT K (aAll rI)))))
section
variable {P : Program} {w : World} {K : PySem.W.Frag} {mg : Str → Option Value} {base : Heap}
theorem g_round_figures_of (T : Tx mg base)  {f : Addr} {fd : FuncData} (F : Fun K "round_figures_of" "round_figures_of" t_round_figures_of f fd) : FnG P w K mg base CX0 1 f fd ["above", "n", "base"] (sp_round_figures_of K) := by
  refine okG0 F sc_round_figures_of (fun vs H Q E h => ?_) (fun cdv A outer s0_ H0 vs Q E hr gd h => ?_)
  · obtain ⟨_, _, _, _, _, _, _, _, ⟨_, _, rfl, _, ⟨_, _, rfl, _, ⟨_, rfl, _⟩⟩⟩, _⟩ := h
    rfl
  · obtain ⟨_, a, S0, s0, r, s', e0, p0, ⟨_, _, rfl, rfl, ⟨_, _, rfl, rfl, ⟨_, rfl, rfl⟩⟩⟩, hm0, fin0⟩ := h
    obtain ⟨p_above, p_n, p_base⟩ := a
    have fin : ∀ v {H' : Hp}, (∃ S', Gm (pt0).M S0 H0 S' H' ∧ PotAt pt0 s' S' H' ∧ (rT K (aCons (rT K (aAll rI)) (aOne (rT K (aAll rI))))) r v S') → Q v H' := fun v {H'} ⟨S', h1, h2, h3⟩ => fin0 v S' H' h1 h2 h3
    have w0 : Wd pt0 S0 H0 S0 H0 [] := Wd.start e0
    have hm0 : Mir.run (m_round_figures_of p_above p_n p_base) s0 = some (r, s') := hm0
    unfold m_round_figures_of at hm0
    have sc := sc_round_figures_of
    refine ⟨_, pss_cons (ps_par3 (i := 4) (j := 5) (l := 6) rfl sc.nd rfl rfl rfl (by decide) (by decide) (by decide) rfl rfl rfl (pa_cons (pe_dnewK) (pa_cons (pe_lst (pa_nil)) (pa_cons (pv 0) (pa_nil)))) (by rfl)) (pss_cons (ps_while PassesOwn.never (PW.pt (pw_and (pt_cmpR op_ne (pv 6) (pe_int) (nomark _)) (pw_and1 (pt_cmp (pc_dnotin (hu_of hr) (pv 6) (pv 4)))))) (pss_cons (ps_if (pt_cmpR op_eq (pe_callB (k_len K) (by rfl) T.n_len (by decide +kernel) (pa_cons (pv 5) pa_nil)) (pe_glob (v := .int 500) rfl T.c_MAX_LISTED.choose_spec ⟨_, rfl⟩) (nomark _)) (pss_cons (ps_dead) (pss_nil)) (pss_nil)) (pss_cons (ps_dput (hu_of hr) (pv 4) (pv 6) (pe_callB (k_len K) (by rfl) T.n_len (by decide +kernel) (pa_cons (pv 5) pa_nil)) rfl) (pss_cons (ps_expr (pe_bm PySem.F.plainAttrs_list PySem.F.slot_list_append PySem.F.type_list_append mt_append (pv 5) (pa_cons (pe_op op_fdivW (pe_op op_mulX (pv 2) (pv 6)) (pv 1)) pa_nil))) (pss_cons (ps_set (i := 6) sc.nd rfl (by first | exact Or.inl rfl | exact Or.inr rfl) (pe_op op_mod (pe_op op_mulX (pv 2) (pv 6)) (pv 1))) (pss_nil)))))) (pss_cons (ps_set (i := 3) sc.nd rfl (by first | exact Or.inl rfl | exact Or.inr rfl) (pe_ifExp (pt_cmpR op_ne (pv 6) (pe_int) (nomark _)) (pe_dget (hu_of hr) (pv 4) (pv 6) (fun _ _ => rfl)) (pe_callB (k_len K) (by rfl) T.n_len (by decide +kernel) (pa_cons (pv 5) pa_nil)))) (pss_cons (ps_ret (pe_tup (pa_cons (pe_callTy (k_tupOf K) (by rfl) T.n_tuple (by decide +kernel) (pa_cons (pe_slice (k_sll K) (pv 5) (po_none) (po_some (pv 3))) pa_nil)) (pa_cons (pe_callTy (k_tupOf K) (by rfl) T.n_tuple (by decide +kernel) (pa_cons (pe_slice (k_sll K) (pv 5) (po_some (pv 3)) (po_none)) pa_nil)) (pa_nil))))) (pss_nil)))), ?_⟩
    refine par3_go ?_
    refine x_dNew (e := Sum.inl) (R := rI) w0 p0 hm0 ?_
    intro places1 q9 vs10 S2 H3 s4 w5 p6 g8 rplaces11 hm7
    refine x_evL w5 p6 (l_lstL (a_nilL (R := rI))) hm7 ?_
    intro found12 q20 vs21 S13 H14 s15 w16 p17 g19 rfound22 hm18
    have rfound22 : All rI _ _ _ := rfound22
    have rplaces11 := AllD.mo g19.s rplaces11
    refine x_ev w16 p17 (e_var (R := rI) rfl rfl) hm18 ?_
    intro rest23 vrest31 S24 H25 s26 w27 p28 g30 rrest32 hm29
    cases (show vrest31 = .int rest23 from rrest32)
    have rplaces11 := AllD.mo g30.s rplaces11
    have rfound22 := All.mo g30.s rfound22
    refine par3_end [some (.int p_above), some (.int p_n), some (.int p_base), none, some (.ref q9), some (.ref q20), some (.int rest23)] rfl ?_
    have w36 := w27.pick [1, 0] (by decide)
    refine q_whC (p := pt0) (ρ := ((List Int) × (List Int))) (fun st33 σ S' H' s' => ∃ (qplaces_ : Addr) (usplaces_ : List (Key × V)) (qfound_ : Addr) (usfound_ : List V), σ = [some (.int p_above), some (.int p_n), some (.int p_base), none, some (.ref qplaces_), some (.ref qfound_), some (.int st33.2.2)] ∧ Wd pt0 S0 H0 S' H' [(qplaces_, .dK usplaces_), (qfound_, .lst usfound_)] ∧ PotAt pt0 s' S' H' ∧ Ex S24 S' ∧ AllD Sum.inl rI S' st33.1 usplaces_ ∧ All rI S' st33.2.1 usfound_) (fun r v H' s' => ∃ S', Gm (pt0).M S0 H0 S' H' ∧ PotAt pt0 s' S' H' ∧ (rT K (aCons (rT K (aAll rI)) (aOne (rT K (aAll rI))))) r v S') ⟨_, _, _, _, rfl, w36, p28, Ex.rf, rplaces11, rfound22⟩ hm29 ?_ ?_ ?_ ?_ ?_
    · rintro st33 _ S46 H47 s48 ⟨qplaces37, usplaces38, qfound39, usfound40, rfl, w43, p44, eb45, rplaces41, rfound42⟩
      exact ⟨p44, w43.i, (t_andT (t_Test (e_ne (e_var (R := rI) rfl rfl) e_cI)) (t_B (e_dNotIn (j := 0) inj_I kr_I w43 rfl rfl rplaces41 (e_var (R := rI) rfl rfl))))⟩
    · rintro st33 _ S58 H59 s60 S61 H62 s63 ⟨qplaces49, usplaces50, qfound51, usfound52, rfl, w55, p56, eb57, rplaces53, rfound54⟩ g64 p65
      exact ⟨_, _, _, _, rfl, w55.go g64, p65, eb57.tr g64.s, AllD.mo g64.s rplaces53, All.mo g64.s rfound54⟩
    · rintro st33 _ S75 H76 s77 st33_ s2_ D_ ⟨qplaces66, usplaces67, qfound68, usfound69, rfl, w72, p73, eb74, rplaces70, rfound71⟩ hm78 nx79 bk80 rt81
      refine q_if w72 p73 (t_Test (e_eq (c_lenL (w_own (A := (aAll rI)) (j := 1) w72 rfl rfl rfound71)) e_cI)) hm78 ?_ ?_
      · intro S83 H84 s85 w86 p87 g88 hm89
        have rplaces70 := AllD.mo g88.s rplaces70
        have rfound71 := All.mo g88.s rfound71
        have eb74 := eb74.tr g88.s
        exact q_dead hm89
      · intro S90 H91 s92 w93 p94 g95 hm96
        have rplaces70 := AllD.mo g95.s rplaces70
        have rfound71 := All.mo g95.s rfound71
        have eb74 := eb74.tr g95.s
        refine nx_done ?_
        refine q_dPut (j := 0) inj_I kr_I w93 p94 rfl rfl rplaces70 (c_lenL (w_own (A := (aAll rI)) (j := 1) w93 rfl rfl rfound71)) (e_var (R := rI) rfl rfl) hm96 ?_
        intro places97 vs98 S100 H101 s102 w103 p104 e106 rplaces99 hm105
        have rfound71 := All.mo e106 rfound71
        have eb74 := eb74.tr e106
        refine q_app (j := 1) w103 p104 rfl rfl rfound71 (e_fdiv (e_mul (e_var (R := rI) rfl rfl) (e_var (R := rI) rfl rfl)) (e_var (R := rI) rfl rfl)) hm105 ?_
        intro found107 vs108 S110 H111 s112 w113 p114 e116 rfound109 hm115
        have rplaces99 := AllD.mo e116 rplaces99
        have eb74 := eb74.tr e116
        refine q_set (fun v => [some (.int p_above), some (.int p_n), some (.int p_base), none, some (.ref qplaces66), some (.ref qfound68), some v]) (fun _ => rfl) w113 p114 (e_mod (e_mul (e_var (R := rI) rfl rfl) (e_var (R := rI) rfl rfl)) (e_var (R := rI) rfl rfl)) hm115 ?_
        intro rest117 vrest125 S118 H119 s120 w121 p122 g124 rrest126 hm123
        cases (show vrest125 = .int rest117 from rrest126)
        have rplaces99 := AllD.mo g124.s rplaces99
        have rfound109 := All.mo g124.s rfound109
        have eb74 := eb74.tr g124.s
        cases run_of_pure hm123
        exact (nx79 _ _ _ _ rfl ⟨_, _, _, _, rfl, w121, p122, eb74, rplaces99, rfound109⟩).1
    · rintro st33 _ S136 H137 s138 ⟨qplaces127, usplaces128, qfound129, usfound130, rfl, w133, p134, eb135, rplaces131, rfound132⟩ hm139
      have hm139 := hm139.elim id id
      refine q_set (fun v => [some (.int p_above), some (.int p_n), some (.int p_base), some v, some (.ref qplaces127), some (.ref qfound129), some (.int st33.2.2)]) (fun _ => rfl) w133 p134 (e_if (R := rI) (t_Test (e_ne (e_var (R := rI) rfl rfl) e_cI)) (e_dGet (j := 0) inj_I kr_I w133 rfl rfl rplaces131 (e_var (R := rI) rfl rfl)) (c_lenL (w_own (A := (aAll rI)) (j := 1) w133 rfl rfl rfound132))) hm139 ?_
      intro begin140 vbegin148 S141 H142 s143 w144 p145 g147 rbegin149 hm146
      cases (show vbegin148 = .int begin140 from rbegin149)
      have rplaces131 := AllD.mo g147.s rplaces131
      have rfound132 := All.mo g147.s rfound132
      refine q_ret w144 p145 (e_tup (K := K) (a_cons (c_tup (K := K) (EvL.rd (l_cut (w_own (A := (aAll rI)) (j := 1) w144 rfl rfl rfound132) o_no (o_some (e_var (R := rI) rfl rfl))))) (a_one (c_tup (K := K) (EvL.rd (l_cut (w_own (A := (aAll rI)) (j := 1) w144 rfl rfl rfound132) (o_some (e_var (R := rI) rfl rfl)) o_no))))) (arN_cons arN_one) (by decide)) hm146 ?_
      intro r157 v158 S150 H151 s152 w153 p154 g156 rr159 hm155
      cases run_of_pure hm155
      exact fin _ ⟨S150, w153.g, p154, rr159⟩
    · intro r162 v163 H' s' hr1 hm1
      cases run_of_pure hm1
      exact fin _ hr1
end
abbrev t_number_of : Stmt := top 27
theorem sc_number_of : FnScope ["figures", "base", "figure", "found", "power"] ["figures", "base"] (defScope t_number_of) := ⟨rfl, rfl, rfl, by decide +kernel, rfl, by decide +kernel, by decide +kernel⟩
@[irreducible] noncomputable def m_number_of (p_figures : (List Int)) (p_base : Int) : Option (Int × Int) :=
bnd (0 : Int) fun found1 =>
bnd (1 : Int) fun power11 =>
(lpS p_figures (fun (x28 : Int) (st26 : Int × Int) =>
Mir.lft (grd (Sm st26.1 ∧ Sm p_base)) >>= fun _ => bnd ((st26.1 * p_base) + x28) fun found67 =>
Mir.lft (grd (Sm st26.2 ∧ Sm p_base)) >>= fun _ => bnd (st26.2 * p_base) fun power77 =>
pure (found67, power77)) (found1, power11)) >>= fun (st26 : Int × Int) =>
bnd (st26.1, st26.2) fun r102 => pure r102
noncomputable abbrev fm_number_of : ((List Int) × Int) → Option (Int × Int) := fun (a0, a1) => m_number_of a0 a1
abbrev sp_number_of (K : PySem.W.Frag) : Sp := spV F0 fm_number_of (fun _ => (aCons (rT K (aAll rI)) (aOne rI))) (rT K (aCons rI (aOne rI)))
section
variable {P : Program} {w : World} {K : PySem.W.Frag} {mg : Str → Option Value} {base : Heap}
theorem g_number_of (T : Tx mg base)  {f : Addr} {fd : FuncData} (F : Fun K "number_of" "number_of" t_number_of f fd) : FnG P w K mg base CX0 1 f fd ["figures", "base"] (sp_number_of K) := by
  refine okG0 F sc_number_of (fun vs H Q E h => ?_) (fun cdv A outer s0_ H0 vs Q E hr gd h => ?_)
  · obtain ⟨_, _, _, _, _, _, _, _, ⟨_, _, rfl, _, ⟨_, rfl, _⟩⟩, _⟩ := h
    rfl
  · obtain ⟨_, a, S0, s0, r, s', e0, p0, ⟨v_figures, _, rfl, r_figures, ⟨_, rfl, rfl⟩⟩, hm0, fin0⟩ := h
    obtain ⟨p_figures, p_base⟩ := a
    have fin : ∀ v {H' : Hp}, (∃ S', Gm (pt0).M S0 H0 S' H' ∧ PotAt pt0 s' S' H' ∧ (rT K (aCons rI (aOne rI))) r v S') → Q v H' := fun v {H'} ⟨S', h1, h2, h3⟩ => fin0 v S' H' h1 h2 h3
    have w0 : Wd pt0 S0 H0 S0 H0 [] := Wd.start e0
    have hm0 : Mir.run (m_number_of p_figures p_base) s0 = some (r, s') := hm0
    unfold m_number_of at hm0
    have sc := sc_number_of
    refine ⟨_, pss_cons (ps_asg (pe_tup (pa_cons (pe_int) (pa_cons (pe_int) (pa_nil)))) (k_gt K (pgs_cons (pg_name (i := 3) sc.nd rfl (by first | exact Or.inl rfl | exact Or.inr rfl)) (pgs_cons (pg_name (i := 4) sc.nd rfl (by first | exact Or.inl rfl | exact Or.inr rfl)) (pgs_nil))))) (pss_cons (ps_for PassesOwn.never rfl (k_pit K (pv 0)) (pg_name (i := 2) sc.nd rfl (by first | exact Or.inl rfl | exact Or.inr rfl)) (pss_cons (ps_par (i := 3) (j := 4) rfl sc.nd rfl rfl (by decide) rfl rfl (pa_cons (pe_op op_add (pe_op op_mulX (pv 3) (pv 1)) (pv 2)) (pa_cons (pe_op op_mulX (pv 4) (pv 1)) (pa_nil))) (by rfl)) (pss_nil))) (pss_cons (ps_ret (pe_tup (pa_cons (pv 3) (pa_cons (pv 4) (pa_nil))))) (pss_nil))), ?_⟩
    refine tup2_go ?_
    refine x_ev w0 p0 e_cI hm0 ?_
    intro found1 vfound9 S2 H3 s4 w5 p6 g8 rfound10 hm7
    cases (show vfound9 = .int found1 from rfound10)
    have r_figures := Mo.mo g8.s r_figures
    refine x_ev w5 p6 e_cI hm7 ?_
    intro power11 vpower19 S12 H13 s14 w15 p16 g18 rpower20 hm17
    cases (show vpower19 = .int power11 from rpower20)
    have r_figures := Mo.mo g18.s r_figures
    refine tup_end (is := [3, 4]) [some v_figures, some (.int p_base), none, some (.int found1), some (.int power11)] w15 p16 rfl (by simp) rfl ?_
    intro S21 H22 w23 p24 g25
    have r_figures := Mo.mo g25.s r_figures
    refine q_for (p := pt0) w23 p24 (i_T (e_var rfl r_figures)) (g_nm (R := rI)) hm17 (fun Sb27 st26 σ S' H' s' => Ex Sb27 S' ∧ (∃ (xfigure_ : Option V), σ = [some v_figures, some (.int p_base), xfigure_, some (.int st26.1), some (.int st26.2)] ∧ Wd pt0 S0 H0 S' H' [] ∧ PotAt pt0 s' S' H' ∧ Ex S21 S')) ?_ ?_ ?_ ?_ ?_
    · intro S29 H30 s31 w32 p33 g34
      have r_figures := Mo.mo g34.s r_figures
      exact ⟨Ex.rf, ⟨_, rfl, w32, p33, g34.s⟩⟩
    · rintro Sb27 st26 _ S39 H40 s41 ⟨ex42, ⟨xfigure35, rfl, w36, p37, eb38⟩⟩
      exact ⟨ex42, w36.i, p37, ownOk0⟩
    · rintro Sb27 st26 _ S47 H48 s49 S50 H51 ⟨ex53, ⟨xfigure43, rfl, w44, p45, eb46⟩⟩ g52
      exact ⟨ex53.tr g52.s, _, rfl, w44.go (Gm.up g52), PotAt.go p45 g52, eb46.tr g52.s⟩
    · rintro Sb27 x28 st26 _ σ66 S58 H59 s60 st26_ s2_ D_ ⟨ex65, ⟨xfigure54, rfl, w55, p56, eb57⟩⟩ hp hm61 nx62
      obtain ⟨_, rfl, rfl⟩ := hp
      have r_figures := Mo.mo eb57 r_figures
      refine par_go ?_
      refine x_ev w55 p56 (e_add (e_mul (e_var (R := rI) rfl rfl) (e_var (R := rI) rfl rfl)) (e_var (R := rI) rfl rfl)) hm61 ?_
      intro found67 vfound75 S68 H69 s70 w71 p72 g74 rfound76 hm73
      cases (show vfound75 = .int found67 from rfound76)
      have r_figures := Mo.mo g74.s r_figures
      have eb57 := eb57.tr g74.s
      have ex65 := ex65.tr g74.s
      refine x_ev w71 p72 (e_mul (e_var (R := rI) rfl rfl) (e_var (R := rI) rfl rfl)) hm73 ?_
      intro power77 vpower85 S78 H79 s80 w81 p82 g84 rpower86 hm83
      cases (show vpower85 = .int power77 from rpower86)
      have r_figures := Mo.mo g84.s r_figures
      have eb57 := eb57.tr g84.s
      have ex65 := ex65.tr g84.s
      refine par_end [some v_figures, some (.int p_base), some (.int x28), some (.int found67), some (.int power77)] rfl ?_
      cases run_of_pure hm83
      exact (nx62 _ _ _ ⟨ex65, ⟨_, rfl, w81, p82, eb57⟩⟩).1
    · rintro Sb27 st26 _ S91 H92 s93 ⟨_, ⟨xfigure87, rfl, w88, p89, eb90⟩⟩ hm94
      have r_figures := Mo.mo eb90 r_figures
      refine q_ret w88 p89 (e_tup (K := K) (a_cons (e_var (R := rI) rfl rfl) (a_one (e_var (R := rI) rfl rfl))) (arN_cons arN_one) (by decide)) hm94 ?_
      intro r102 v103 S95 H96 s97 w98 p99 g101 rr104 hm100
      cases run_of_pure hm100
      exact fin _ ⟨S95, w98.g, p99, rr104⟩
end
abbrev t_fraction_by : Stmt := top 28
theorem sc_fraction_by : FnScope ["ahead", "round_figures", "base", "by", "first", "power", "second", "whole", "above", "below"] ["ahead", "round_figures", "base"] (defScope t_fraction_by) := ⟨rfl, rfl, rfl, by decide +kernel, rfl, by decide +kernel, by decide +kernel⟩
@[irreducible] noncomputable def m_fraction_by (p_ahead : (List Int)) (p_round_figures : (List Int)) (p_base : Int) : Option (Int × Int) :=
Mir.lft (m_number_of p_ahead p_base) >>= fun r131 => bnd r131 fun t1 =>
Mir.lft (m_number_of p_round_figures p_base) >>= fun r130 => bnd r130 fun t10 =>
bnd t1.1 fun above19 =>
bnd t1.2 fun below29 =>
Mir.lft (grd (List.length ([] : List Int) ≤ 16000000)) >>= fun _ => ((if (!decide (p_round_figures = ([] : List Int))) = true then
(Mir.lft (grd (Sm t1.1 ∧ Sm (t10.2 - (1 : Int)))) >>= fun _ => bnd ((t1.1 * (t10.2 - (1 : Int))) + t10.1) fun above49 =>
Mir.lft (grd (Sm t1.2 ∧ Sm (t10.2 - (1 : Int)))) >>= fun _ => bnd (t1.2 * (t10.2 - (1 : Int))) fun below59 =>
pure (above49, below59))
else
(pure (above19, below29))) >>= fun (st39 : Int × Int) =>
if (decide (st39.1 = (0 : Int))) = true then
(bnd ((0 : Int), (1 : Int)) fun r99 => pure r99)
else
(Mir.lft (m_common_divisor st39.1 st39.2) >>= fun r129 => bnd r129 fun by109 =>
Mir.lft (grd (Dv by109)) >>= fun _ => Mir.lft (grd (Dv by109)) >>= fun _ => bnd ((st39.1 / by109), (st39.2 / by109)) fun r126 => pure r126))
noncomputable abbrev fm_fraction_by : ((List Int) × (List Int) × Int) → Option (Int × Int) := fun (a0, a1, a2) => m_fraction_by a0 a1 a2
abbrev sp_fraction_by (K : PySem.W.Frag) : Sp := spV F0 fm_fraction_by (fun _ => (aCons (rT K (aAll rI)) (aCons (rT K (aAll rI)) (aOne rI)))) (rT K (aCons rI (aOne rI)))
section
variable {P : Program} {w : World} {K : PySem.W.Frag} {mg : Str → Option Value} {base : Heap}
theorem g_fraction_by (T : Tx mg base) (D0 : Dk P w K mg base "number_of" "number_of" t_number_of 1 ["figures", "base"] (sp_number_of K)) (D1 : Dk P w K mg base "common_divisor" "common_divisor" t_common_divisor 1 ["one", "other"] (sp_common_divisor K)) {f : Addr} {fd : FuncData} (F : Fun K "fraction_by" "fraction_by" t_fraction_by f fd) : FnG P w K mg base CX0 2 f fd ["ahead", "round_figures", "base"] (sp_fraction_by K) := by
  obtain ⟨f0, fd0, F0, m0, G0, b0⟩ := D0
  obtain ⟨f1, fd1, F1, m1, G1, b1⟩ := D1
  refine okG0 F sc_fraction_by (fun vs H Q E h => ?_) (fun cdv A outer s0_ H0 vs Q E hr gd h => ?_)
  · obtain ⟨_, _, _, _, _, _, _, _, ⟨_, _, rfl, _, ⟨_, _, rfl, _, ⟨_, rfl, _⟩⟩⟩, _⟩ := h
    rfl
  · obtain ⟨_, a, S0, s0, r, s', e0, p0, ⟨v_ahead, _, rfl, r_ahead, ⟨v_round_figures, _, rfl, r_round_figures, ⟨_, rfl, rfl⟩⟩⟩, hm0, fin0⟩ := h
    obtain ⟨p_ahead, p_round_figures, p_base⟩ := a
    have fin : ∀ v {H' : Hp}, (∃ S', Gm (pt0).M S0 H0 S' H' ∧ PotAt pt0 s' S' H' ∧ (rT K (aCons rI (aOne rI))) r v S') → Q v H' := fun v {H'} ⟨S', h1, h2, h3⟩ => fin0 v S' H' h1 h2 h3
    have w0 : Wd pt0 S0 H0 S0 H0 [] := Wd.start e0
    have hm0 : Mir.run (m_fraction_by p_ahead p_round_figures p_base) s0 = some (r, s') := hm0
    unfold m_fraction_by at hm0
    have sc := sc_fraction_by
    refine ⟨_, pss_cons (ps_asg (pe_cG G0 (hr.mono (by decide)) gd rfl m0 F0.kp b0 pass0 (pa_cons (pv 0) (pa_cons (pv 2) (pa_nil)))) (k_gt K (pgs_cons (pg_name (i := 4) sc.nd rfl (by first | exact Or.inl rfl | exact Or.inr rfl)) (pgs_cons (pg_name (i := 5) sc.nd rfl (by first | exact Or.inl rfl | exact Or.inr rfl)) (pgs_nil))))) (pss_cons (ps_asg (pe_cG G0 (hr.mono (by decide)) gd rfl m0 F0.kp b0 pass0 (pa_cons (pv 1) (pa_cons (pv 2) (pa_nil)))) (k_gt K (pgs_cons (pg_name (i := 6) sc.nd rfl (by first | exact Or.inl rfl | exact Or.inr rfl)) (pgs_cons (pg_name (i := 7) sc.nd rfl (by first | exact Or.inl rfl | exact Or.inr rfl)) (pgs_nil))))) (pss_cons (ps_par (i := 8) (j := 9) rfl sc.nd rfl rfl (by decide) rfl rfl (pa_cons (pv 4) (pa_cons (pv 5) (pa_nil))) (by rfl)) (pss_cons (ps_if (pt_cmpR (k_neD K hr) (pv 1) (pe_tup (pa_nil)) (nomark _)) (pss_cons (ps_par (i := 8) (j := 9) rfl sc.nd rfl rfl (by decide) rfl rfl (pa_cons (pe_op op_add (pe_op op_mulX (pv 4) (pe_op op_sub (pv 7) (pe_int))) (pv 6)) (pa_cons (pe_op op_mulX (pv 5) (pe_op op_sub (pv 7) (pe_int))) (pa_nil))) (by rfl)) (pss_nil)) (pss_nil)) (pss_cons (ps_if (pt_cmpR op_eq (pv 8) (pe_int) (nomark _)) (pss_cons (ps_ret (pe_tup (pa_cons (pe_int) (pa_cons (pe_int) (pa_nil))))) (pss_nil)) (pss_nil)) (pss_cons (ps_set (i := 3) sc.nd rfl (by first | exact Or.inl rfl | exact Or.inr rfl) (pe_cG G1 (hr.mono (by decide)) gd rfl m1 F1.kp b1 pass0 (pa_cons (pv 8) (pa_cons (pv 9) (pa_nil))))) (pss_cons (ps_ret (pe_tup (pa_cons (pe_op op_fdivW (pv 8) (pv 3)) (pa_cons (pe_op op_fdivW (pv 9) (pv 3)) (pa_nil))))) (pss_nil))))))), ?_⟩
    refine q_unp w0 p0 (Ev.eta (e_call (E := E0) (fm := fm_number_of) (R := (rT K (aCons rI (aOne rI)))) (a_cons (e_var rfl r_ahead) (a_one (e_var (R := rI) rfl rfl))))) (g_tp (gq_cons (g_nm (R := rI)) (gq_one (g_nm (R := rI))))) hm0 ?_
    intro t1 σ9 S2 H3 s4 w5 p6 g8 hp hm7
    have r_ahead := Mo.mo g8.s r_ahead
    have r_round_figures := Mo.mo g8.s r_round_figures
    obtain ⟨_, ⟨_, rfl, rfl⟩, ⟨_, rfl, rfl⟩⟩ := hp
    refine q_unp w5 p6 (Ev.eta (e_call (E := E0) (fm := fm_number_of) (R := (rT K (aCons rI (aOne rI)))) (a_cons (e_var rfl r_round_figures) (a_one (e_var (R := rI) rfl rfl))))) (g_tp (gq_cons (g_nm (R := rI)) (gq_one (g_nm (R := rI))))) hm7 ?_
    intro t10 σ18 S11 H12 s13 w14 p15 g17 hp hm16
    have r_ahead := Mo.mo g17.s r_ahead
    have r_round_figures := Mo.mo g17.s r_round_figures
    obtain ⟨_, ⟨_, rfl, rfl⟩, ⟨_, rfl, rfl⟩⟩ := hp
    refine par_go ?_
    refine x_ev w14 p15 (e_var (R := rI) rfl rfl) hm16 ?_
    intro above19 vabove27 S20 H21 s22 w23 p24 g26 rabove28 hm25
    cases (show vabove27 = .int above19 from rabove28)
    have r_ahead := Mo.mo g26.s r_ahead
    have r_round_figures := Mo.mo g26.s r_round_figures
    refine x_ev w23 p24 (e_var (R := rI) rfl rfl) hm25 ?_
    intro below29 vbelow37 S30 H31 s32 w33 p34 g36 rbelow38 hm35
    cases (show vbelow37 = .int below29 from rbelow38)
    have r_ahead := Mo.mo g36.s r_ahead
    have r_round_figures := Mo.mo g36.s r_round_figures
    refine par_end [some v_ahead, some v_round_figures, some (.int p_base), none, some (.int t1.1), some (.int t1.2), some (.int t10.1), some (.int t10.2), some (.int above19), some (.int below29)] rfl ?_
    refine q_ifj (p := pt0) (fun st39 σ S' H' s' => σ = [some v_ahead, some v_round_figures, some (.int p_base), none, some (.int t1.1), some (.int t1.2), some (.int t10.1), some (.int t10.2), some (.int st39.1), some (.int st39.2)] ∧ Wd pt0 S0 H0 S' H' [] ∧ PotAt pt0 s' S' H' ∧ Ex S30 S') w33 p34 (t_Test (e_neQ (q_T (qs_all q_I)) (by decide) (Ev.Q (e_var rfl r_round_figures) (d_T (ds_all d_I))) (Ev.Q (e_tupL (K := K) (a_nilL (R := rI))) (d_T (ds_all d_I))))) hm35 ?_ ?_ ?_
    · intro S40 H41 s42 st39_ s2_ D_ w43 p44 g45 hm46 nx47
      have r_ahead := Mo.mo g45.s r_ahead
      have r_round_figures := Mo.mo g45.s r_round_figures
      have eb48 := g45.s
      refine par_go ?_
      refine x_ev w43 p44 (e_add (e_mul (e_var (R := rI) rfl rfl) (e_sub (e_var (R := rI) rfl rfl) e_cI)) (e_var (R := rI) rfl rfl)) hm46 ?_
      intro above49 vabove57 S50 H51 s52 w53 p54 g56 rabove58 hm55
      cases (show vabove57 = .int above49 from rabove58)
      have r_ahead := Mo.mo g56.s r_ahead
      have r_round_figures := Mo.mo g56.s r_round_figures
      have eb48 := eb48.tr g56.s
      refine x_ev w53 p54 (e_mul (e_var (R := rI) rfl rfl) (e_sub (e_var (R := rI) rfl rfl) e_cI)) hm55 ?_
      intro below59 vbelow67 S60 H61 s62 w63 p64 g66 rbelow68 hm65
      cases (show vbelow67 = .int below59 from rbelow68)
      have r_ahead := Mo.mo g66.s r_ahead
      have r_round_figures := Mo.mo g66.s r_round_figures
      have eb48 := eb48.tr g66.s
      refine par_end [some v_ahead, some v_round_figures, some (.int p_base), none, some (.int t1.1), some (.int t1.2), some (.int t10.1), some (.int t10.2), some (.int above49), some (.int below59)] rfl ?_
      cases run_of_pure hm65
      exact nx47 _ _ _ ⟨rfl, w63, p64, eb48⟩
    · intro S69 H70 s71 st39_ s2_ D_ w72 p73 g74 hm75 nx76
      have r_ahead := Mo.mo g74.s r_ahead
      have r_round_figures := Mo.mo g74.s r_round_figures
      have eb77 := g74.s
      cases run_of_pure hm75
      exact nx76 _ _ _ ⟨rfl, w72, p73, eb77⟩
    · rintro st39 _ S81 H82 s83 ⟨rfl, w78, p79, eb80⟩ hm84
      have r_ahead := Mo.mo eb80 r_ahead
      have r_round_figures := Mo.mo eb80 r_round_figures
      refine q_if w78 p79 (t_Test (e_eq (e_var (R := rI) rfl rfl) e_cI)) hm84 ?_ ?_
      · intro S85 H86 s87 w88 p89 g90 hm91
        have r_ahead := Mo.mo g90.s r_ahead
        have r_round_figures := Mo.mo g90.s r_round_figures
        refine q_ret w88 p89 (e_tup (K := K) (a_cons e_cI (a_one e_cI)) (arN_cons arN_one) (by decide)) hm91 ?_
        intro r99 v100 S92 H93 s94 w95 p96 g98 rr101 hm97
        cases run_of_pure hm97
        exact fin _ ⟨S92, w95.g, p96, rr101⟩
      · intro S102 H103 s104 w105 p106 g107 hm108
        have r_ahead := Mo.mo g107.s r_ahead
        have r_round_figures := Mo.mo g107.s r_round_figures
        refine nx_done ?_
        refine q_set (fun v => [some v_ahead, some v_round_figures, some (.int p_base), some v, some (.int t1.1), some (.int t1.2), some (.int t10.1), some (.int t10.2), some (.int st39.1), some (.int st39.2)]) (fun _ => rfl) w105 p106 (Ev.eta (e_call (E := E0) (fm := fm_common_divisor) (R := rI) (a_cons (e_var (R := rI) rfl rfl) (a_one (e_var (R := rI) rfl rfl))))) hm108 ?_
        intro by109 vby117 S110 H111 s112 w113 p114 g116 rby118 hm115
        cases (show vby117 = .int by109 from rby118)
        have r_ahead := Mo.mo g116.s r_ahead
        have r_round_figures := Mo.mo g116.s r_round_figures
        refine q_ret w113 p114 (e_tup (K := K) (a_cons (e_fdiv (e_var (R := rI) rfl rfl) (e_var (R := rI) rfl rfl)) (a_one (e_fdiv (e_var (R := rI) rfl rfl) (e_var (R := rI) rfl rfl)))) (arN_cons arN_one) (by decide)) hm115 ?_
        intro r126 v127 S119 H120 s121 w122 p123 g125 rr128 hm124
        cases run_of_pure hm124
        exact fin _ ⟨S119, w122.g, p123, rr128⟩
end
abbrev t_gcd_of : Stmt := top 30
theorem sc_gcd_of : FnScope ["one", "other"] ["one", "other"] (defScope t_gcd_of) := ⟨rfl, rfl, rfl, by decide +kernel, rfl, by decide +kernel, by decide +kernel⟩
@[irreducible] noncomputable def m_gcd_of (p_one : Int) (p_other : Int) : Option Int :=
(whS many (fun (st1 : Int × Int) k => k (decide ((0 : Int) < st1.2))) (fun (st1 : Int × Int) =>
bnd st1.2 fun one32 =>
Mir.lft (grd (0 < st1.2)) >>= fun _ => bnd (st1.1 % st1.2) fun other42 =>
pure (one32, other42)) (p_one, p_other)) >>= fun (st1 : Int × Int) =>
bnd st1.1 fun r66 => pure r66
noncomputable abbrev fm_gcd_of : (Int × Int) → Option Int := fun (a0, a1) => m_gcd_of a0 a1
abbrev sp_gcd_of (K : PySem.W.Frag) : Sp := spV F0 fm_gcd_of (fun _ => (aCons rI (aOne rI))) rI
section
variable {P : Program} {w : World} {K : PySem.W.Frag} {mg : Str → Option Value} {base : Heap}
theorem g_gcd_of (T : Tx mg base)  {f : Addr} {fd : FuncData} (F : Fun K "gcd_of" "gcd_of" t_gcd_of f fd) : FnG P w K mg base CX0 1 f fd ["one", "other"] (sp_gcd_of K) := by
  refine okG0 F sc_gcd_of (fun vs H Q E h => ?_) (fun cdv A outer s0_ H0 vs Q E hr gd h => ?_)
  · obtain ⟨_, _, _, _, _, _, _, _, ⟨_, _, rfl, _, ⟨_, rfl, _⟩⟩, _⟩ := h
    rfl
  · obtain ⟨_, a, S0, s0, r, s', e0, p0, ⟨_, _, rfl, rfl, ⟨_, rfl, rfl⟩⟩, hm0, fin0⟩ := h
    obtain ⟨p_one, p_other⟩ := a
    have fin : ∀ v {H' : Hp}, (∃ S', Gm (pt0).M S0 H0 S' H' ∧ PotAt pt0 s' S' H' ∧ rI r v S') → Q v H' := fun v {H'} ⟨S', h1, h2, h3⟩ => fin0 v S' H' h1 h2 h3
    have w0 : Wd pt0 S0 H0 S0 H0 [] := Wd.start e0
    have hm0 : Mir.run (m_gcd_of p_one p_other) s0 = some (r, s') := hm0
    unfold m_gcd_of at hm0
    have sc := sc_gcd_of
    refine ⟨_, pss_cons (ps_while PassesOwn.never (pt_cmpR op_gt (pv 1) (pe_int) (nomark _)) (pss_cons (ps_par (i := 0) (j := 1) rfl sc.nd rfl rfl (by decide) rfl rfl (pa_cons (pv 1) (pa_cons (pe_op op_mod (pv 0) (pv 1)) (pa_nil))) (by rfl)) (pss_nil))) (pss_cons (ps_ret (pv 0)) (pss_nil)), ?_⟩
    refine q_wh (p := pt0) (fun st1 σ S' H' s' => σ = [some (.int st1.1), some (.int st1.2)] ∧ Wd pt0 S0 H0 S' H' [] ∧ PotAt pt0 s' S' H' ∧ Ex S0 S') ⟨rfl, w0, p0, Ex.rf⟩ hm0 ?_ ?_ ?_ ?_
    · rintro st1 _ S7 H8 s9 ⟨rfl, w4, p5, eb6⟩
      exact ⟨p5, w4.i, (t_Test (e_gt (e_var (R := rI) rfl rfl) e_cI))⟩
    · rintro st1 _ S13 H14 s15 S16 H17 s18 ⟨rfl, w10, p11, eb12⟩ g19 p20
      exact ⟨rfl, w10.go g19, p20, eb12.tr g19.s⟩
    · rintro st1 _ S24 H25 s26 st1_ s2_ D_ ⟨rfl, w21, p22, eb23⟩ hm27 nx28
      refine par_go ?_
      refine x_ev w21 p22 (e_var (R := rI) rfl rfl) hm27 ?_
      intro one32 vone40 S33 H34 s35 w36 p37 g39 rone41 hm38
      cases (show vone40 = .int one32 from rone41)
      have eb23 := eb23.tr g39.s
      refine x_ev w36 p37 (e_mod (e_var (R := rI) rfl rfl) (e_var (R := rI) rfl rfl)) hm38 ?_
      intro other42 vother50 S43 H44 s45 w46 p47 g49 rother51 hm48
      cases (show vother50 = .int other42 from rother51)
      have eb23 := eb23.tr g49.s
      refine par_end [some (.int one32), some (.int other42)] rfl ?_
      cases run_of_pure hm48
      exact (nx28 _ _ _ ⟨rfl, w46, p47, eb23⟩).1
    · rintro st1 _ S55 H56 s57 ⟨rfl, w52, p53, eb54⟩ hm58
      refine q_ret w52 p53 (e_var (R := rI) rfl rfl) hm58 ?_
      intro r66 v67 S59 H60 s61 w62 p63 g65 rr68 hm64
      cases run_of_pure hm64
      exact fin _ ⟨S59, w62.g, p63, rr68⟩
end
abbrev t_coprime_count : Stmt := top 32
theorem sc_coprime_count : FnScope ["number", "found", "p", "k"] ["number"] (defScope t_coprime_count) := ⟨rfl, rfl, rfl, by decide +kernel, rfl, by decide +kernel, by decide +kernel⟩
@[irreducible] noncomputable def m_coprime_count (p_number : Int) : Option Int :=
bnd p_number fun found1 =>
Mir.lft (m_primes_of p_number) >>= fun r84 => (lpS r84 (fun (x13 : (Int × Int)) (st11 : Int) =>
Mir.lft (grd (Dv x13.1)) >>= fun _ => Mir.lft (grd (Sm (st11 / x13.1) ∧ Sm (x13.1 - (1 : Int)))) >>= fun _ => bnd ((st11 / x13.1) * (x13.1 - (1 : Int))) fun found55 =>
pure found55) found1) >>= fun (st11 : Int) =>
bnd st11 fun r81 => pure r81
noncomputable abbrev fm_coprime_count : (Int) → Option Int := fun a => m_coprime_count a
abbrev sp_coprime_count (K : PySem.W.Frag) : Sp := spV F0 fm_coprime_count (fun _ => (aOne rI)) rI
section
variable {P : Program} {w : World} {K : PySem.W.Frag} {mg : Str → Option Value} {base : Heap}
theorem g_coprime_count (T : Tx mg base) (D0 : Dk P w K mg base "primes_of" "primes_of" t_primes_of 4 ["number"] (sp_primes_of K)) {f : Addr} {fd : FuncData} (F : Fun K "coprime_count" "coprime_count" t_coprime_count f fd) : FnG P w K mg base CX0 5 f fd ["number"] (sp_coprime_count K) := by
  obtain ⟨f0, fd0, F0, m0, G0, b0⟩ := D0
  refine okG0 F sc_coprime_count (fun vs H Q E h => ?_) (fun cdv A outer s0_ H0 vs Q E hr gd h => ?_)
  · obtain ⟨_, _, _, _, _, _, _, _, ⟨_, rfl, _⟩, _⟩ := h
    rfl
  · obtain ⟨_, p_number, S0, s0, r, s', e0, p0, ⟨_, rfl, rfl⟩, hm0, fin0⟩ := h
    have fin : ∀ v {H' : Hp}, (∃ S', Gm (pt0).M S0 H0 S' H' ∧ PotAt pt0 s' S' H' ∧ rI r v S') → Q v H' := fun v {H'} ⟨S', h1, h2, h3⟩ => fin0 v S' H' h1 h2 h3
    have w0 : Wd pt0 S0 H0 S0 H0 [] := Wd.start e0
    have hm0 : Mir.run (m_coprime_count p_number) s0 = some (r, s') := hm0
    unfold m_coprime_count at hm0
    have sc := sc_coprime_count
    refine ⟨_, pss_cons (ps_set (i := 1) sc.nd rfl (by first | exact Or.inl rfl | exact Or.inr rfl) (pv 0)) (pss_cons (ps_for PassesOwn.never rfl (k_pit K (pe_cG G0 (hr.mono (by decide)) gd rfl m0 F0.kp b0 pass0 (pa_cons (pv 0) (pa_nil)))) (k_gt K (pgs_cons (pg_name (i := 2) sc.nd rfl (by first | exact Or.inl rfl | exact Or.inr rfl)) (pgs_cons (pg_name (i := 3) sc.nd rfl (by first | exact Or.inl rfl | exact Or.inr rfl)) (pgs_nil)))) (pss_cons (ps_set (i := 1) sc.nd rfl (by first | exact Or.inl rfl | exact Or.inr rfl) (pe_op op_mulX (pe_op op_fdivW (pv 1) (pv 2)) (pe_op op_sub (pv 2) (pe_int)))) (pss_nil))) (pss_cons (ps_ret (pv 1)) (pss_nil))), ?_⟩
    refine q_set (fun v => [some (.int p_number), some v, none, none]) (fun _ => rfl) w0 p0 (e_var (R := rI) rfl rfl) hm0 ?_
    intro found1 vfound9 S2 H3 s4 w5 p6 g8 rfound10 hm7
    cases (show vfound9 = .int found1 from rfound10)
    refine q_for (p := pt0) w5 p6 (i_T (Ev.eta (e_call (E := E0) (fm := fm_primes_of) (R := (rT K (aAll (rT K (aCons rI (aOne rI)))))) (a_one (e_var (R := rI) rfl rfl))))) (g_tp (gq_cons (g_nm (R := rI)) (gq_one (g_nm (R := rI))))) hm7 (fun Sb12 st11 σ S' H' s' => Ex Sb12 S' ∧ (∃ (xp_ : Option V) (xk_ : Option V), σ = [some (.int p_number), some (.int st11), xp_, xk_] ∧ Wd pt0 S0 H0 S' H' [] ∧ PotAt pt0 s' S' H' ∧ Ex S2 S')) ?_ ?_ ?_ ?_ ?_
    · intro S14 H15 s16 w17 p18 g19
      exact ⟨Ex.rf, ⟨_, _, rfl, w17, p18, g19.s⟩⟩
    · rintro Sb12 st11 _ S25 H26 s27 ⟨ex28, ⟨xp20, xk21, rfl, w22, p23, eb24⟩⟩
      exact ⟨ex28, w22.i, p23, ownOk0⟩
    · rintro Sb12 st11 _ S34 H35 s36 S37 H38 ⟨ex40, ⟨xp29, xk30, rfl, w31, p32, eb33⟩⟩ g39
      exact ⟨ex40.tr g39.s, _, _, rfl, w31.go (Gm.up g39), PotAt.go p32 g39, eb33.tr g39.s⟩
    · rintro Sb12 x13 st11 _ σ54 S46 H47 s48 st11_ s2_ D_ ⟨ex53, ⟨xp41, xk42, rfl, w43, p44, eb45⟩⟩ hp hm49 nx50
      obtain ⟨_, ⟨_, rfl, rfl⟩, ⟨_, rfl, rfl⟩⟩ := hp
      refine q_set (fun v => [some (.int p_number), some v, some (.int x13.1), some (.int x13.2)]) (fun _ => rfl) w43 p44 (e_mul (e_fdiv (e_var (R := rI) rfl rfl) (e_var (R := rI) rfl rfl)) (e_sub (e_var (R := rI) rfl rfl) e_cI)) hm49 ?_
      intro found55 vfound63 S56 H57 s58 w59 p60 g62 rfound64 hm61
      cases (show vfound63 = .int found55 from rfound64)
      have eb45 := eb45.tr g62.s
      have ex53 := ex53.tr g62.s
      cases run_of_pure hm61
      exact (nx50 _ _ _ ⟨ex53, ⟨_, _, rfl, w59, p60, eb45⟩⟩).1
    · rintro Sb12 st11 _ S70 H71 s72 ⟨_, ⟨xp65, xk66, rfl, w67, p68, eb69⟩⟩ hm73
      refine q_ret w67 p68 (e_var (R := rI) rfl rfl) hm73 ?_
      intro r81 v82 S74 H75 s76 w77 p78 g80 rr83 hm79
      cases run_of_pure hm79
      exact fin _ ⟨S74, w77.g, p78, rr83⟩
end
abbrev t_coprimes_of : Stmt := top 33
theorem sc_coprimes_of : FnScope ["number", "own"] ["number"] (defScope t_coprimes_of) := ⟨rfl, rfl, rfl, by decide +kernel, rfl, by decide +kernel, by decide +kernel⟩
@[irreducible] noncomputable def m_coprimes_of (p_number : Int) : Option (List Int) :=
Mir.lft (m_coprime_count p_number) >>= fun r31 => if (decide ((500 : Int) < r31)) = true then
(Mir.lft (none : Option Unit) >>= fun _ => Mir.lft none)
else
(Mir.lft (grd (RgB (1 : Int) ∧ RgB (p_number + (1 : Int)))) >>= fun _ => Mir.lft (grd (List.length (rng (1 : Int) (p_number + (1 : Int))) ≤ 16000000)) >>= fun _ => cmp (rng (1 : Int) (p_number + (1 : Int))) (fun x15 => Mir.lft (m_gcd_of x15 p_number) >>= fun r18 => if (decide (r18 = (1 : Int))) = true then pure (some x15) else pure none) >>= fun l30 => bnd l30 fun r27 => pure r27)
noncomputable abbrev fm_coprimes_of : (Int) → Option (List Int) := fun a => m_coprimes_of a
abbrev sp_coprimes_of (K : PySem.W.Frag) : Sp := spV F0 fm_coprimes_of (fun _ => (aOne rI)) (rT K (aAll rI))
section
variable {P : Program} {w : World} {K : PySem.W.Frag} {mg : Str → Option Value} {base : Heap}
theorem g_coprimes_of (T : Tx mg base) (D0 : Dk P w K mg base "coprime_count" "coprime_count" t_coprime_count 5 ["number"] (sp_coprime_count K)) (D1 : Dk P w K mg base "gcd_of" "gcd_of" t_gcd_of 1 ["one", "other"] (sp_gcd_of K)) {f : Addr} {fd : FuncData} (F : Fun K "coprimes_of" "coprimes_of" t_coprimes_of f fd) : FnG P w K mg base CX0 6 f fd ["number"] (sp_coprimes_of K) := by
  obtain ⟨f0, fd0, F0, m0, G0, b0⟩ := D0
  obtain ⟨f1, fd1, F1, m1, G1, b1⟩ := D1
  refine okG0 F sc_coprimes_of (fun vs H Q E h => ?_) (fun cdv A outer s0_ H0 vs Q E hr gd h => ?_)
  · obtain ⟨_, _, _, _, _, _, _, _, ⟨_, rfl, _⟩, _⟩ := h
    rfl
  · obtain ⟨_, p_number, S0, s0, r, s', e0, p0, ⟨_, rfl, rfl⟩, hm0, fin0⟩ := h
    have fin : ∀ v {H' : Hp}, (∃ S', Gm (pt0).M S0 H0 S' H' ∧ PotAt pt0 s' S' H' ∧ (rT K (aAll rI)) r v S') → Q v H' := fun v {H'} ⟨S', h1, h2, h3⟩ => fin0 v S' H' h1 h2 h3
    have w0 : Wd pt0 S0 H0 S0 H0 [] := Wd.start e0
    have hm0 : Mir.run (m_coprimes_of p_number) s0 = some (r, s') := hm0
    unfold m_coprimes_of at hm0
    have sc := sc_coprimes_of
    refine ⟨_, pss_cons (ps_if (pt_cmpR op_gt (pe_cG G0 (hr.mono (by decide)) gd rfl m0 F0.kp b0 pass0 (pa_cons (pv 0) (pa_nil))) (pe_glob (v := .int 500) rfl T.c_MAX_LISTED.choose_spec ⟨_, rfl⟩) (nomark _)) (pss_cons (ps_dead) (pss_nil)) (pss_nil)) (pss_cons (ps_ret (pe_callTy (k_tupOf K) (by rfl) T.n_tuple (by decide +kernel) (pa_cons (pe_lc (own := [("own", 1)]) (g := (gName 1)) rfl sc.nd (pi_range2 rfl T.n_range (pa_cons (pe_int) (pa_cons (pe_op op_add (pv 0) (pe_int)) pa_nil))) (blkOk_by (N := ["number", "own"]) (sc := defScope t_coprimes_of) (by decide +kernel)) (fun _ _ _ _ _ => pg_name (i := 1) sc.nd rfl (by first | exact Or.inl rfl | exact Or.inr rfl)) (fun _ _ _ _ _ => pts_one (pt_cmpR op_eq (pe_cG G1 (hr.mono (by decide)) gd rfl m1 F1.kp b1 pass0 (pa_cons (pv 1) (pa_cons (pv 0) (pa_nil)))) (pe_int) (nomark _))) (fun _ _ _ _ _ => pv 1)) pa_nil))) (pss_nil)), ?_⟩
    refine q_if w0 p0 (t_Test (e_gt (Ev.eta (e_call (E := E0) (fm := fm_coprime_count) (R := rI) (a_one (e_var (R := rI) rfl rfl)))) e_cI)) hm0 ?_ ?_
    · intro S1 H2 s3 w4 p5 g6 hm7
      exact q_dead hm7
    · intro S8 H9 s10 w11 p12 g13 hm14
      refine nx_done ?_
      refine q_ret w11 p12 (c_tup (K := K) (EvL.rd (l_lc (γ := Int) (vs := [1]) (mt := fun x15 k => Mir.lft (m_gcd_of x15 p_number) >>= fun r19 => k (decide (r19 = (1 : Int)))) (me := fun x15 k => k x15) (R' := rI) (i_R2 e_cI (e_add (e_var (R := rI) rfl rfl) e_cI)) ownOk0 (g_nm (R := rI)) (fun x σ' S hp => by obtain ⟨_, rfl, _⟩ := hp; rfl) (fun x15 σ' S1 H1 g16 hp => by have w17 := w11.go g16; obtain ⟨_, rfl, rfl⟩ := hp; exact (t_Test (e_eq (Ev.eta (e_call (E := E0) (fm := fm_gcd_of) (R := rI) (a_cons (e_var (R := rI) rfl rfl) (a_one (e_var (R := rI) rfl rfl))))) e_cI))) (fun x15 σ' S1 H1 g16 hp => by have w17 := w11.go g16; obtain ⟨_, rfl, rfl⟩ := hp; exact (e_var (R := rI) rfl rfl)) pm_nm))) hm14 ?_
      intro r27 v28 S20 H21 s22 w23 p24 g26 rr29 hm25
      cases run_of_pure hm25
      exact fin _ ⟨S20, w23.g, p24, rr29⟩
end
abbrev t_is_integer : Stmt := top 35
theorem sc_is_integer : FnScope ["value"] ["value"] (defScope t_is_integer) := ⟨rfl, rfl, rfl, by decide +kernel, rfl, by decide +kernel, by decide +kernel⟩
@[irreducible] noncomputable def m_is_integer (p_value : Int) : Option Bool :=
bnd (true && (!false)) fun r8 => pure r8
noncomputable abbrev fm_is_integer : (Int) → Option Bool := fun a => m_is_integer a
abbrev sp_is_integer (K : PySem.W.Frag) : Sp := spV F0 fm_is_integer (fun _ => (aOne rI)) rB
section
variable {P : Program} {w : World} {K : PySem.W.Frag} {mg : Str → Option Value} {base : Heap}
theorem g_is_integer (T : Tx mg base)  {f : Addr} {fd : FuncData} (F : Fun K "is_integer" "is_integer" t_is_integer f fd) : FnG P w K mg base CX0 1 f fd ["value"] (sp_is_integer K) := by
  refine okG0 F sc_is_integer (fun vs H Q E h => ?_) (fun cdv A outer s0_ H0 vs Q E hr gd h => ?_)
  · obtain ⟨_, _, _, _, _, _, _, _, ⟨_, rfl, _⟩, _⟩ := h
    rfl
  · obtain ⟨_, p_value, S0, s0, r, s', e0, p0, ⟨_, rfl, rfl⟩, hm0, fin0⟩ := h
    have fin : ∀ v {H' : Hp}, (∃ S', Gm (pt0).M S0 H0 S' H' ∧ PotAt pt0 s' S' H' ∧ rB r v S') → Q v H' := fun v {H'} ⟨S', h1, h2, h3⟩ => fin0 v S' H' h1 h2 h3
    have w0 : Wd pt0 S0 H0 S0 H0 [] := Wd.start e0
    have hm0 : Mir.run (m_is_integer p_value) s0 = some (r, s') := hm0
    unfold m_is_integer at hm0
    have sc := sc_is_integer
    refine ⟨_, pss_cons (ps_ret (pe_and (pe_callB (k_isi K) (by rfl) T.n_isinstance (by decide +kernel) (pa_cons (pv 0) (pa_cons (pe_bltn (v := .ty "int") (u := .type "int") rfl T.n_int (by decide +kernel) rfl) pa_nil))) (pe_one (pe_not (pe_callB (k_isi K) (by rfl) T.n_isinstance (by decide +kernel) (pa_cons (pv 0) (pa_cons (pe_bltn (v := .ty "bool") (u := .type "bool") rfl T.n_bool (by decide +kernel) rfl) pa_nil))))))) (pss_nil), ?_⟩
    refine q_ret w0 p0 (e_andT (c_isi (K := K) (U := "int") (b := true) (e_var (R := rI) rfl rfl) ty_I (kit_ty (by decide +kernel))) (e_not (c_isi (K := K) (U := "bool") (b := false) (e_var (R := rI) rfl rfl) ty_I (kit_ty (by decide +kernel))))) hm0 ?_
    intro r8 v9 S1 H2 s3 w4 p5 g7 rr10 hm6
    cases run_of_pure hm6
    exact fin _ ⟨S1, w4.g, p5, rr10⟩
end
abbrev t_has_root : Stmt := top 37
theorem sc_has_root : FnScope ["n", "parting"] ["n"] (defScope t_has_root) := ⟨rfl, rfl, rfl, by decide +kernel, rfl, by decide +kernel, by decide +kernel⟩
@[irreducible] noncomputable def m_has_root (p_n : Int) : Option Bool :=
Mir.lft (m_primes_of p_n) >>= fun r71 => bnd r71 fun parting1 =>
Mir.lft (grd (List.length ([(1 : Int), (2 : Int), (4 : Int)] : List Int) ≤ 16000000)) >>= fun _ => if (List.contains ([(1 : Int), (2 : Int), (4 : Int)] : List Int) p_n) = true then
(bnd true fun r25 => pure r25)
else
(Mir.lft (L2.atI parting1 (0 : Int)) >>= fun y70 => if (decide ((2 : Int) < (y70.1))) = true then
(bnd (decide ((List.length parting1 : Int) = (1 : Int))) fun r49 => pure r49)
else
(Mir.lft (L2.atI parting1 (0 : Int)) >>= fun y69 => bnd ((decide ((y69.2) = (1 : Int))) && (decide ((List.length parting1 : Int) = (2 : Int)))) fun r66 => pure r66))
noncomputable abbrev fm_has_root : (Int) → Option Bool := fun a => m_has_root a
abbrev sp_has_root (K : PySem.W.Frag) : Sp := spV F0 fm_has_root (fun _ => (aOne rI)) rB
section
variable {P : Program} {w : World} {K : PySem.W.Frag} {mg : Str → Option Value} {base : Heap}
theorem g_has_root (T : Tx mg base) (D0 : Dk P w K mg base "primes_of" "primes_of" t_primes_of 4 ["number"] (sp_primes_of K)) {f : Addr} {fd : FuncData} (F : Fun K "has_root" "has_root" t_has_root f fd) : FnG P w K mg base CX0 5 f fd ["n"] (sp_has_root K) := by
  obtain ⟨f0, fd0, F0, m0, G0, b0⟩ := D0
  refine okG0 F sc_has_root (fun vs H Q E h => ?_) (fun cdv A outer s0_ H0 vs Q E hr gd h => ?_)
  · obtain ⟨_, _, _, _, _, _, _, _, ⟨_, rfl, _⟩, _⟩ := h
    rfl
  · obtain ⟨_, p_n, S0, s0, r, s', e0, p0, ⟨_, rfl, rfl⟩, hm0, fin0⟩ := h
    have fin : ∀ v {H' : Hp}, (∃ S', Gm (pt0).M S0 H0 S' H' ∧ PotAt pt0 s' S' H' ∧ rB r v S') → Q v H' := fun v {H'} ⟨S', h1, h2, h3⟩ => fin0 v S' H' h1 h2 h3
    have w0 : Wd pt0 S0 H0 S0 H0 [] := Wd.start e0
    have hm0 : Mir.run (m_has_root p_n) s0 = some (r, s') := hm0
    unfold m_has_root at hm0
    have sc := sc_has_root
    refine ⟨_, pss_cons (ps_set (i := 1) sc.nd rfl (by first | exact Or.inl rfl | exact Or.inr rfl) (pe_cG G0 (hr.mono (by decide)) gd rfl m0 F0.kp b0 pass0 (pa_cons (pv 0) (pa_nil)))) (pss_cons (ps_if (pt_cmpR (k_in K) (pv 0) (pe_tup (pa_cons (pe_int) (pa_cons (pe_int) (pa_cons (pe_int) (pa_nil))))) (by rfl)) (pss_cons (ps_ret (pe_bl)) (pss_nil)) (pss_nil)) (pss_cons (ps_if (pt_cmpR op_gt (pe_ix (k_ixT K) (pe_ix (k_ixT K) (pv 1) (pe_int) (fun _ _ => rfl)) (pe_int) (fun _ _ => rfl)) (pe_int) (nomark _)) (pss_cons (ps_ret (pe_cmpR op_eq (pe_callB (k_len K) (by rfl) T.n_len (by decide +kernel) (pa_cons (pv 1) pa_nil)) (pe_int) (nomark _))) (pss_nil)) (pss_nil)) (pss_cons (ps_ret (pe_and (pe_cmpR op_eq (pe_ix (k_ixT K) (pe_ix (k_ixT K) (pv 1) (pe_int) (fun _ _ => rfl)) (pe_int) (fun _ _ => rfl)) (pe_int) (nomark _)) (pe_one (pe_cmpR op_eq (pe_callB (k_len K) (by rfl) T.n_len (by decide +kernel) (pa_cons (pv 1) pa_nil)) (pe_int) (nomark _))))) (pss_nil)))), ?_⟩
    refine q_set (fun v => [some (.int p_n), some v]) (fun _ => rfl) w0 p0 (Ev.eta (e_call (E := E0) (fm := fm_primes_of) (R := (rT K (aAll (rT K (aCons rI (aOne rI)))))) (a_one (e_var (R := rI) rfl rfl)))) hm0 ?_
    intro parting1 vparting9 S2 H3 s4 w5 p6 g8 rparting10 hm7
    refine q_if w5 p6 (t_Test (e_inT (neg := false) (e_var (R := rI) rfl rfl) (e_tupL (K := K) (a_consL e_cI (a_consL e_cI (a_consL e_cI (a_nilL (R := rI)))))))) hm7 ?_ ?_
    · intro S11 H12 s13 w14 p15 g16 hm17
      have rparting10 := Mo.mo g16.s rparting10
      refine q_ret w14 p15 e_cB hm17 ?_
      intro r25 v26 S18 H19 s20 w21 p22 g24 rr27 hm23
      cases run_of_pure hm23
      exact fin _ ⟨S18, w21.g, p22, rr27⟩
    · intro S28 H29 s30 w31 p32 g33 hm34
      have rparting10 := Mo.mo g33.s rparting10
      refine nx_done ?_
      refine q_if w31 p32 (t_Test (e_gt (e_ixC (n := 0) (mB := fun k => k 0) (A := (aCons rI (aOne rI))) (R := rI) (f := fun a => a.1) (e_ixT (e_var rfl rparting10) e_cI) rfl (fun a vs S h => by obtain ⟨_, _, rfl, h0, ⟨_, rfl, h1⟩⟩ := h; exact ⟨_, rfl, h0⟩)) e_cI)) hm34 ?_ ?_
      · intro S35 H36 s37 w38 p39 g40 hm41
        have rparting10 := Mo.mo g40.s rparting10
        refine q_ret w38 p39 (e_eq (c_lenT (e_var rfl rparting10)) e_cI) hm41 ?_
        intro r49 v50 S42 H43 s44 w45 p46 g48 rr51 hm47
        cases run_of_pure hm47
        exact fin _ ⟨S42, w45.g, p46, rr51⟩
      · intro S52 H53 s54 w55 p56 g57 hm58
        have rparting10 := Mo.mo g57.s rparting10
        refine nx_done ?_
        refine q_ret w55 p56 (e_andT (e_eq (e_ixC (n := 1) (mB := fun k => k 1) (A := (aCons rI (aOne rI))) (R := rI) (f := fun a => a.2) (e_ixT (e_var rfl rparting10) e_cI) rfl (fun a vs S h => by obtain ⟨_, _, rfl, h0, ⟨_, rfl, h1⟩⟩ := h; exact ⟨_, rfl, h1⟩)) e_cI) (e_eq (c_lenT (e_var rfl rparting10)) e_cI)) hm58 ?_
        intro r66 v67 S59 H60 s61 w62 p63 g65 rr68 hm64
        cases run_of_pure hm64
        exact fin _ ⟨S59, w62.g, p63, rr68⟩
end
abbrev t_is_root : Stmt := top 38
theorem sc_is_root : FnScope ["n", "whole", "primes", "a", "p"] ["n", "whole", "primes", "a"] (defScope t_is_root) := ⟨rfl, rfl, rfl, by decide +kernel, rfl, by decide +kernel, by decide +kernel⟩
@[irreducible] noncomputable def m_is_root (p_n : Int) (p_whole : Int) (p_primes : (List Int)) (p_a : Int) : Option Bool :=
Mir.lft (m_common_divisor p_a p_n) >>= fun r41 => if (decide ((1 : Int) < r41)) = true then
(bnd false fun r15 => pure r15)
else
(Mir.lft (grd (List.length p_primes ≤ 16000000)) >>= fun _ => cmp p_primes (fun x25 => Mir.lft (grd (Dv x25)) >>= fun _ => Mir.lft (m_power_rest p_a (p_whole / x25) p_n) >>= fun r29 => Mir.lft (grd (0 < p_n)) >>= fun _ => pure (some (!decide (r29 = ((1 : Int) % p_n))))) >>= fun l40 => bnd (List.all l40 id) fun r37 => pure r37)
noncomputable abbrev fm_is_root : (Int × Int × (List Int) × Int) → Option Bool := fun (a0, a1, a2, a3) => m_is_root a0 a1 a2 a3
abbrev sp_is_root (K : PySem.W.Frag) : Sp := spV F0 fm_is_root (fun _ => (aCons rI (aCons rI (aCons (rL (aAll rI)) (aOne rI))))) rB
section
variable {P : Program} {w : World} {K : PySem.W.Frag} {mg : Str → Option Value} {base : Heap}
theorem g_is_root (T : Tx mg base) (D0 : Dk P w K mg base "common_divisor" "common_divisor" t_common_divisor 1 ["one", "other"] (sp_common_divisor K)) (D1 : Dk P w K mg base "power_rest" "power_rest" t_power_rest 1 ["number", "e", "n"] (sp_power_rest K)) {f : Addr} {fd : FuncData} (F : Fun K "is_root" "is_root" t_is_root f fd) : FnG P w K mg base CX0 2 f fd ["n", "whole", "primes", "a"] (sp_is_root K) := by
  obtain ⟨f0, fd0, F0, m0, G0, b0⟩ := D0
  obtain ⟨f1, fd1, F1, m1, G1, b1⟩ := D1
  refine okG0 F sc_is_root (fun vs H Q E h => ?_) (fun cdv A outer s0_ H0 vs Q E hr gd h => ?_)
  · obtain ⟨_, _, _, _, _, _, _, _, ⟨_, _, rfl, _, ⟨_, _, rfl, _, ⟨_, _, rfl, _, ⟨_, rfl, _⟩⟩⟩⟩, _⟩ := h
    rfl
  · obtain ⟨_, a, S0, s0, r, s', e0, p0, ⟨_, _, rfl, rfl, ⟨_, _, rfl, rfl, ⟨v_primes, _, rfl, r_primes, ⟨_, rfl, rfl⟩⟩⟩⟩, hm0, fin0⟩ := h
    obtain ⟨p_n, p_whole, p_primes, p_a⟩ := a
    have fin : ∀ v {H' : Hp}, (∃ S', Gm (pt0).M S0 H0 S' H' ∧ PotAt pt0 s' S' H' ∧ rB r v S') → Q v H' := fun v {H'} ⟨S', h1, h2, h3⟩ => fin0 v S' H' h1 h2 h3
    have w0 : Wd pt0 S0 H0 S0 H0 [] := Wd.start e0
    have hm0 : Mir.run (m_is_root p_n p_whole p_primes p_a) s0 = some (r, s') := hm0
    unfold m_is_root at hm0
    have sc := sc_is_root
    refine ⟨_, pss_cons (ps_if (pt_cmpR op_gt (pe_cG G0 (hr.mono (by decide)) gd rfl m0 F0.kp b0 pass0 (pa_cons (pv 3) (pa_cons (pv 0) (pa_nil)))) (pe_int) (nomark _)) (pss_cons (ps_ret (pe_bl)) (pss_nil)) (pss_nil)) (pss_cons (ps_ret (pe_callB (k_all K) (by rfl) T.n_all (by decide +kernel) (pa_cons (pe_lc (own := [("p", 4)]) (g := (gName 4)) (tt := tYes) rfl sc.nd (k_pil K (pv 2)) (blkOk_by (N := ["n", "whole", "primes", "a", "p"]) (sc := defScope t_is_root) (by decide +kernel)) (fun _ _ _ _ _ => pg_name (i := 4) sc.nd rfl (by first | exact Or.inl rfl | exact Or.inr rfl)) (fun _ _ _ _ _ => pts_nil) (fun _ _ _ _ _ => pe_cmpR op_ne (pe_cG G1 (hr.mono (by decide)) gd rfl m1 F1.kp b1 pass0 (pa_cons (pv 3) (pa_cons (pe_op op_fdivW (pv 1) (pv 4)) (pa_cons (pv 0) (pa_nil))))) (pe_op op_mod (pe_int) (pv 0)) (nomark _))) pa_nil))) (pss_nil)), ?_⟩
    refine q_if w0 p0 (t_Test (e_gt (Ev.eta (e_call (E := E0) (fm := fm_common_divisor) (R := rI) (a_cons (e_var (R := rI) rfl rfl) (a_one (e_var (R := rI) rfl rfl))))) e_cI)) hm0 ?_ ?_
    · intro S1 H2 s3 w4 p5 g6 hm7
      have r_primes := Mo.mo g6.s r_primes
      refine q_ret w4 p5 e_cB hm7 ?_
      intro r15 v16 S8 H9 s10 w11 p12 g14 rr17 hm13
      cases run_of_pure hm13
      exact fin _ ⟨S8, w11.g, p12, rr17⟩
    · intro S18 H19 s20 w21 p22 g23 hm24
      have r_primes := Mo.mo g23.s r_primes
      refine nx_done ?_
      refine q_ret w21 p22 (c_all (EvL.rd (l_lc1 (γ := Bool) (vs := [4]) (me := fun x25 k => Mir.lft (grd (Dv x25)) >>= fun _ => Mir.lft (m_power_rest p_a (p_whole / x25) p_n) >>= fun r28 => Mir.lft (grd (0 < p_n)) >>= fun _ => k (!decide (r28 = ((1 : Int) % p_n)))) (R' := rB) (i_L (K := K) (e_var rfl r_primes)) ownOk0 (g_nm (R := rI)) (fun x σ' S hp => by obtain ⟨_, rfl, _⟩ := hp; rfl) (fun x25 σ' S1 H1 g26 hp => by have w27 := w21.go g26; obtain ⟨_, rfl, rfl⟩ := hp; have r_primes := Mo.mo g26.s r_primes; exact (e_ne (Ev.eta (e_call (E := E0) (fm := fm_power_rest) (R := rI) (a_cons (e_var (R := rI) rfl rfl) (a_cons (e_fdiv (e_var (R := rI) rfl rfl) (e_var (R := rI) rfl rfl)) (a_one (e_var (R := rI) rfl rfl)))))) (e_mod e_cI (e_var (R := rI) rfl rfl)))) pm_nm))) hm24 ?_
      intro r37 v38 S30 H31 s32 w33 p34 g36 rr39 hm35
      cases run_of_pure hm35
      exact fin _ ⟨S30, w33.g, p34, rr39⟩
end
abbrev t_least_root : Stmt := top 39
theorem sc_least_root : FnScope ["n", "primes", "whole", "a", "p", "k"] ["n"] (defScope t_least_root) := ⟨rfl, rfl, rfl, by decide +kernel, rfl, by decide +kernel, by decide +kernel⟩
@[irreducible] noncomputable def m_least_root (p_n : Int) : Option Int :=
Mir.lft (m_has_root p_n) >>= fun r112 => if (!r112) = true then
(Mir.lft (none : Option Unit) >>= fun _ => Mir.lft none)
else
(Mir.lft (m_rests_number p_n) >>= fun r111 => bnd r111 fun whole15 =>
bnd (1 : Int) fun a25 =>
Mir.lft (m_primes_of whole15) >>= fun r110 => Mir.lft (grd (List.length r110 ≤ 16000000)) >>= fun _ => bnd (List.map (fun x35 => x35.1) r110) fun primes38 =>
(whS many (fun (st48 : Int) k => Mir.lft (m_is_root p_n whole15 primes38 st48) >>= fun r109 => k (!r109)) (fun (st48 : Int) =>
bnd (st48 + (1 : Int)) fun a79 =>
pure a79) a25) >>= fun (st48 : Int) =>
bnd st48 fun r103 => pure r103)
noncomputable abbrev fm_least_root : (Int) → Option Int := fun a => m_least_root a
abbrev sp_least_root (K : PySem.W.Frag) : Sp := spV F0 fm_least_root (fun _ => (aOne rI)) rI
section
variable {P : Program} {w : World} {K : PySem.W.Frag} {mg : Str → Option Value} {base : Heap}
theorem g_least_root (T : Tx mg base) (D0 : Dk P w K mg base "has_root" "has_root" t_has_root 5 ["n"] (sp_has_root K)) (D1 : Dk P w K mg base "rests_number" "rests_number" t_rests_number 6 ["n"] (sp_rests_number K)) (D2 : Dk P w K mg base "primes_of" "primes_of" t_primes_of 4 ["number"] (sp_primes_of K)) (D3 : Dk P w K mg base "is_root" "is_root" t_is_root 2 ["n", "whole", "primes", "a"] (sp_is_root K)) {f : Addr} {fd : FuncData} (F : Fun K "least_root" "least_root" t_least_root f fd) : FnG P w K mg base CX0 7 f fd ["n"] (sp_least_root K) := by
  obtain ⟨f0, fd0, F0, m0, G0, b0⟩ := D0
  obtain ⟨f1, fd1, F1, m1, G1, b1⟩ := D1
  obtain ⟨f2, fd2, F2, m2, G2, b2⟩ := D2
  obtain ⟨f3, fd3, F3, m3, G3, b3⟩ := D3
  refine okG0 F sc_least_root (fun vs H Q E h => ?_) (fun cdv A outer s0_ H0 vs Q E hr gd h => ?_)
  · obtain ⟨_, _, _, _, _, _, _, _, ⟨_, rfl, _⟩, _⟩ := h
    rfl
  · obtain ⟨_, p_n, S0, s0, r, s', e0, p0, ⟨_, rfl, rfl⟩, hm0, fin0⟩ := h
    have fin : ∀ v {H' : Hp}, (∃ S', Gm (pt0).M S0 H0 S' H' ∧ PotAt pt0 s' S' H' ∧ rI r v S') → Q v H' := fun v {H'} ⟨S', h1, h2, h3⟩ => fin0 v S' H' h1 h2 h3
    have w0 : Wd pt0 S0 H0 S0 H0 [] := Wd.start e0
    have hm0 : Mir.run (m_least_root p_n) s0 = some (r, s') := hm0
    unfold m_least_root at hm0
    have sc := sc_least_root
    refine ⟨_, pss_cons (ps_if (pt_not (pt_val (pe_cG G0 (hr.mono (by decide)) gd rfl m0 F0.kp b0 pass0 (pa_cons (pv 0) (pa_nil))))) (pss_cons (ps_dead) (pss_nil)) (pss_nil)) (pss_cons (ps_par (i := 2) (j := 3) rfl sc.nd rfl rfl (by decide) rfl rfl (pa_cons (pe_cG G1 (hr.mono (by decide)) gd rfl m1 F1.kp b1 pass0 (pa_cons (pv 0) (pa_nil))) (pa_cons (pe_int) (pa_nil))) (by rfl)) (pss_cons (ps_setLc (i := 1) (own := [("p", 4), ("k", 5)]) (g := (gTup K 2 (gCons (gName 4) (gCons (gName 5) gNil)))) (tt := tYes) rfl sc.nd rfl rfl (sw_true rfl rfl rfl (by decide +kernel)) (k_pit K (pe_cG G2 (hr.mono (by decide)) gd rfl m2 F2.kp b2 pass0 (pa_cons (pv 2) (pa_nil)))) (blkOk_by (N := ["n", "primes", "whole", "a", "p", "k"]) (sc := defScope t_least_root) (by decide +kernel)) (fun _ _ _ _ _ => k_gt K (pgs_cons (pg_name (i := 4) sc.nd rfl (by first | exact Or.inl rfl | exact Or.inr rfl)) (pgs_cons (pg_name (i := 5) sc.nd rfl (by first | exact Or.inl rfl | exact Or.inr rfl)) (pgs_nil)))) (fun _ _ _ _ _ => pts_nil) (fun _ _ _ _ _ => pv 4)) (pss_cons (ps_while PassesOwn.never (pt_not (pt_val (pe_cG G3 (hr.mono (by decide)) gd rfl m3 F3.kp b3 pass0 (pa_cons (pv 0) (pa_cons (pv 2) (pa_cons (pv 1) (pa_cons (pv 3) (pa_nil)))))))) (pss_cons (ps_set (i := 3) sc.nd rfl (by first | exact Or.inl rfl | exact Or.inr rfl) (pe_op op_add (pv 3) (pe_int))) (pss_nil))) (pss_cons (ps_ret (pv 3)) (pss_nil))))), ?_⟩
    refine q_if w0 p0 (t_not (t_B (Ev.eta (e_call (E := E0) (fm := fm_has_root) (R := rB) (a_one (e_var (R := rI) rfl rfl)))))) hm0 ?_ ?_
    · intro S1 H2 s3 w4 p5 g6 hm7
      exact q_dead hm7
    · intro S8 H9 s10 w11 p12 g13 hm14
      refine nx_done ?_
      refine par_go ?_
      refine x_ev w11 p12 (Ev.eta (e_call (E := E0) (fm := fm_rests_number) (R := rI) (a_one (e_var (R := rI) rfl rfl)))) hm14 ?_
      intro whole15 vwhole23 S16 H17 s18 w19 p20 g22 rwhole24 hm21
      cases (show vwhole23 = .int whole15 from rwhole24)
      refine x_ev w19 p20 e_cI hm21 ?_
      intro a25 va33 S26 H27 s28 w29 p30 g32 ra34 hm31
      cases (show va33 = .int a25 from ra34)
      refine par_end [some (.int p_n), none, some (.int whole15), some (.int a25), none, none] rfl ?_
      refine q_set (fun v => [some (.int p_n), some v, some (.int whole15), some (.int a25), none, none]) (fun _ => rfl) w29 p30 (EvL.frz (l_lc1T (vs := [4, 5]) (f := (fun x35 => x35.1)) (R' := rI) (i_T (Ev.eta (e_call (E := E0) (fm := fm_primes_of) (R := (rT K (aAll (rT K (aCons rI (aOne rI)))))) (a_one (e_var (R := rI) rfl rfl))))) ownOk0 (g_tp (gq_cons (g_nm (R := rI)) (gq_one (g_nm (R := rI))))) (fun x σ' S hp => by obtain ⟨_, ⟨_, rfl, _⟩, ⟨_, rfl, _⟩⟩ := hp; rfl) (fun x35 σ' S1 H1 g36 hp => by have w37 := w29.go g36; obtain ⟨_, ⟨_, rfl, rfl⟩, ⟨_, rfl, rfl⟩⟩ := hp; exact (e_var (R := rI) rfl rfl)) (pm_cons pm_nm pm_nm))) hm31 ?_
      intro primes38 vprimes46 S39 H40 s41 w42 p43 g45 rprimes47 hm44
      refine q_wh (p := pt0) (fun st48 σ S' H' s' => σ = [some (.int p_n), some vprimes46, some (.int whole15), some (.int st48), none, none] ∧ Wd pt0 S0 H0 S' H' [] ∧ PotAt pt0 s' S' H' ∧ Ex S39 S') ⟨rfl, w42, p43, Ex.rf⟩ hm44 ?_ ?_ ?_ ?_
      · rintro st48 _ S54 H55 s56 ⟨rfl, w51, p52, eb53⟩
        have rprimes47 := Mo.mo eb53 rprimes47
        exact ⟨p52, w51.i, (t_not (t_B (Ev.eta (e_call (E := E0) (fm := fm_is_root) (R := rB) (a_cons (e_var (R := rI) rfl rfl) (a_cons (e_var (R := rI) rfl rfl) (a_cons (e_var rfl rprimes47) (a_one (e_var (R := rI) rfl rfl)))))))))⟩
      · rintro st48 _ S60 H61 s62 S63 H64 s65 ⟨rfl, w57, p58, eb59⟩ g66 p67
        exact ⟨rfl, w57.go g66, p67, eb59.tr g66.s⟩
      · rintro st48 _ S71 H72 s73 st48_ s2_ D_ ⟨rfl, w68, p69, eb70⟩ hm74 nx75
        have rprimes47 := Mo.mo eb70 rprimes47
        refine q_set (fun v => [some (.int p_n), some vprimes46, some (.int whole15), some v, none, none]) (fun _ => rfl) w68 p69 (e_add (e_var (R := rI) rfl rfl) e_cI) hm74 ?_
        intro a79 va87 S80 H81 s82 w83 p84 g86 ra88 hm85
        cases (show va87 = .int a79 from ra88)
        have rprimes47 := Mo.mo g86.s rprimes47
        have eb70 := eb70.tr g86.s
        cases run_of_pure hm85
        exact (nx75 _ _ _ ⟨rfl, w83, p84, eb70⟩).1
      · rintro st48 _ S92 H93 s94 ⟨rfl, w89, p90, eb91⟩ hm95
        have rprimes47 := Mo.mo eb91 rprimes47
        refine q_ret w89 p90 (e_var (R := rI) rfl rfl) hm95 ?_
        intro r103 v104 S96 H97 s98 w99 p100 g102 rr105 hm101
        cases run_of_pure hm101
        exact fin _ ⟨S96, w99.g, p100, rr105⟩
end
abbrev t_roots_number : Stmt := top 40
theorem sc_roots_number : FnScope ["n"] ["n"] (defScope t_roots_number) := ⟨rfl, rfl, rfl, by decide +kernel, rfl, by decide +kernel, by decide +kernel⟩
@[irreducible] noncomputable def m_roots_number (p_n : Int) : Option Int :=
Mir.lft (m_has_root p_n) >>= fun r12 => (if r12 = true then Mir.lft (m_rests_number p_n) >>= fun r14 => Mir.lft (m_rests_number r14) >>= fun r13 => pure r13 else pure (0 : Int)) >>= fun c11 => bnd c11 fun r8 => pure r8
noncomputable abbrev fm_roots_number : (Int) → Option Int := fun a => m_roots_number a
abbrev sp_roots_number (K : PySem.W.Frag) : Sp := spV F0 fm_roots_number (fun _ => (aOne rI)) rI
section
variable {P : Program} {w : World} {K : PySem.W.Frag} {mg : Str → Option Value} {base : Heap}
theorem g_roots_number (T : Tx mg base) (D0 : Dk P w K mg base "has_root" "has_root" t_has_root 5 ["n"] (sp_has_root K)) (D1 : Dk P w K mg base "rests_number" "rests_number" t_rests_number 6 ["n"] (sp_rests_number K)) {f : Addr} {fd : FuncData} (F : Fun K "roots_number" "roots_number" t_roots_number f fd) : FnG P w K mg base CX0 7 f fd ["n"] (sp_roots_number K) := by
  obtain ⟨f0, fd0, F0, m0, G0, b0⟩ := D0
  obtain ⟨f1, fd1, F1, m1, G1, b1⟩ := D1
  refine okG0 F sc_roots_number (fun vs H Q E h => ?_) (fun cdv A outer s0_ H0 vs Q E hr gd h => ?_)
  · obtain ⟨_, _, _, _, _, _, _, _, ⟨_, rfl, _⟩, _⟩ := h
    rfl
  · obtain ⟨_, p_n, S0, s0, r, s', e0, p0, ⟨_, rfl, rfl⟩, hm0, fin0⟩ := h
    have fin : ∀ v {H' : Hp}, (∃ S', Gm (pt0).M S0 H0 S' H' ∧ PotAt pt0 s' S' H' ∧ rI r v S') → Q v H' := fun v {H'} ⟨S', h1, h2, h3⟩ => fin0 v S' H' h1 h2 h3
    have w0 : Wd pt0 S0 H0 S0 H0 [] := Wd.start e0
    have hm0 : Mir.run (m_roots_number p_n) s0 = some (r, s') := hm0
    unfold m_roots_number at hm0
    have sc := sc_roots_number
    refine ⟨_, pss_cons (ps_ret (pe_ifExp (pt_val (pe_cG G0 (hr.mono (by decide)) gd rfl m0 F0.kp b0 pass0 (pa_cons (pv 0) (pa_nil)))) (pe_cG G1 (hr.mono (by decide)) gd rfl m1 F1.kp b1 pass0 (pa_cons (pe_cG G1 (hr.mono (by decide)) gd rfl m1 F1.kp b1 pass0 (pa_cons (pv 0) (pa_nil))) (pa_nil))) (pe_int))) (pss_nil), ?_⟩
    refine q_ret w0 p0 (e_if (R := rI) (t_B (Ev.eta (e_call (E := E0) (fm := fm_has_root) (R := rB) (a_one (e_var (R := rI) rfl rfl))))) (Ev.eta (e_call (E := E0) (fm := fm_rests_number) (R := rI) (a_one (Ev.eta (e_call (E := E0) (fm := fm_rests_number) (R := rI) (a_one (e_var (R := rI) rfl rfl))))))) e_cI) hm0 ?_
    intro r8 v9 S1 H2 s3 w4 p5 g7 rr10 hm6
    cases run_of_pure hm6
    exact fin _ ⟨S1, w4.g, p5, rr10⟩
end
abbrev t_root_paper : Stmt := top 41
theorem sc_root_paper : FnScope ["n"] ["n"] (defScope t_root_paper) := ⟨rfl, rfl, rfl, by decide +kernel, rfl, by decide +kernel, by decide +kernel⟩
@[irreducible] noncomputable def m_root_paper (p_n : Int) : Option (Str × Int) :=
Mir.lft (m_has_root p_n) >>= fun r12 => (if r12 = true then Mir.lft (m_least_root p_n) >>= fun r13 => pure (("root" : Str), r13) else Mir.lft (m_greatest_order p_n) >>= fun r14 => pure (("low" : Str), r14)) >>= fun c11 => bnd c11 fun r8 => pure r8
noncomputable abbrev fm_root_paper : (Int) → Option (Str × Int) := fun a => m_root_paper a
abbrev sp_root_paper (K : PySem.W.Frag) : Sp := spV F0 fm_root_paper (fun _ => (aOne rI)) (rT K (aCons rS (aOne rI)))
section
variable {P : Program} {w : World} {K : PySem.W.Frag} {mg : Str → Option Value} {base : Heap}
theorem g_root_paper (T : Tx mg base) (D0 : Dk P w K mg base "has_root" "has_root" t_has_root 5 ["n"] (sp_has_root K)) (D1 : Dk P w K mg base "least_root" "least_root" t_least_root 7 ["n"] (sp_least_root K)) (D2 : Dk P w K mg base "greatest_order" "greatest_order" t_greatest_order 6 ["n"] (sp_greatest_order K)) {f : Addr} {fd : FuncData} (F : Fun K "root_paper" "root_paper" t_root_paper f fd) : FnG P w K mg base CX0 8 f fd ["n"] (sp_root_paper K) := by
  obtain ⟨f0, fd0, F0, m0, G0, b0⟩ := D0
  obtain ⟨f1, fd1, F1, m1, G1, b1⟩ := D1
  obtain ⟨f2, fd2, F2, m2, G2, b2⟩ := D2
  refine okG0 F sc_root_paper (fun vs H Q E h => ?_) (fun cdv A outer s0_ H0 vs Q E hr gd h => ?_)
  · obtain ⟨_, _, _, _, _, _, _, _, ⟨_, rfl, _⟩, _⟩ := h
    rfl
  · obtain ⟨_, p_n, S0, s0, r, s', e0, p0, ⟨_, rfl, rfl⟩, hm0, fin0⟩ := h
    have fin : ∀ v {H' : Hp}, (∃ S', Gm (pt0).M S0 H0 S' H' ∧ PotAt pt0 s' S' H' ∧ (rT K (aCons rS (aOne rI))) r v S') → Q v H' := fun v {H'} ⟨S', h1, h2, h3⟩ => fin0 v S' H' h1 h2 h3
    have w0 : Wd pt0 S0 H0 S0 H0 [] := Wd.start e0
    have hm0 : Mir.run (m_root_paper p_n) s0 = some (r, s') := hm0
    unfold m_root_paper at hm0
    have sc := sc_root_paper
    refine ⟨_, pss_cons (ps_ret (pe_ifExp (pt_val (pe_cG G0 (hr.mono (by decide)) gd rfl m0 F0.kp b0 pass0 (pa_cons (pv 0) (pa_nil)))) (pe_tup (pa_cons (pe_str) (pa_cons (pe_cG G1 (hr.mono (by decide)) gd rfl m1 F1.kp b1 pass0 (pa_cons (pv 0) (pa_nil))) (pa_nil)))) (pe_tup (pa_cons (pe_str) (pa_cons (pe_cG G2 (hr.mono (by decide)) gd rfl m2 F2.kp b2 pass0 (pa_cons (pv 0) (pa_nil))) (pa_nil)))))) (pss_nil), ?_⟩
    refine q_ret w0 p0 (e_if (R := (rT K (aCons rS (aOne rI)))) (t_B (Ev.eta (e_call (E := E0) (fm := fm_has_root) (R := rB) (a_one (e_var (R := rI) rfl rfl))))) (e_tup (K := K) (a_cons e_cS (a_one (Ev.eta (e_call (E := E0) (fm := fm_least_root) (R := rI) (a_one (e_var (R := rI) rfl rfl)))))) (arN_cons arN_one) (by decide)) (e_tup (K := K) (a_cons e_cS (a_one (Ev.eta (e_call (E := E0) (fm := fm_greatest_order) (R := rI) (a_one (e_var (R := rI) rfl rfl)))))) (arN_cons arN_one) (by decide))) hm0 ?_
    intro r8 v9 S1 H2 s3 w4 p5 g7 rr10 hm6
    cases run_of_pure hm6
    exact fin _ ⟨S1, w4.g, p5, rr10⟩
end
abbrev t_low_fault : Stmt := top 42
theorem sc_low_fault : FnScope ["n", "k", "a"] ["n", "k"] (defScope t_low_fault) := ⟨rfl, rfl, rfl, by decide +kernel, rfl, by decide +kernel, by decide +kernel⟩
@[irreducible] noncomputable def m_low_fault (p_n : Int) (p_k : Int) : Option (Option (Str ⊕ (Str × Int))) :=
Mir.lft (m_rests_number p_n) >>= fun r124 => if (decide (r124 ≤ p_k)) = true then
(bnd (some ((Sum.inl ("high" : Str)) : (Str ⊕ (Str × Int)))) fun r15 => pure r15)
else
(Mir.lft (m_greatest_order p_n) >>= fun r123 => Mir.lft (grd (0 < r123)) >>= fun _ => if (decide ((p_k % r123) = (0 : Int))) = true then
(bnd none fun r39 => pure r39)
else
(bnd (1 : Int) fun a49 =>
(whS many (fun (st59 : Int) k => Mir.lft (m_common_divisor st59 p_n) >>= fun r121 => (if (decide ((1 : Int) < r121)) = true then pure true else Mir.lft (m_power_rest st59 p_k p_n) >>= fun r122 => Mir.lft (grd (0 < p_n)) >>= fun _ => pure (decide (r122 = ((1 : Int) % p_n)))) >>= fun b120 => k b120) (fun (st59 : Int) =>
bnd (st59 + (1 : Int)) fun a90 =>
pure a90) a49) >>= fun (st59 : Int) =>
bnd (some ((Sum.inr (("rest" : Str), st59)) : (Str ⊕ (Str × Int)))) fun r114 => pure r114))
noncomputable abbrev fm_low_fault : (Int × Int) → Option (Option (Str ⊕ (Str × Int))) := fun (a0, a1) => m_low_fault a0 a1
abbrev sp_low_fault (K : PySem.W.Frag) : Sp := spV F0 fm_low_fault (fun _ => (aCons rI (aOne rI))) (rO (rU rS (rT K (aCons rS (aOne rI)))))
section
variable {P : Program} {w : World} {K : PySem.W.Frag} {mg : Str → Option Value} {base : Heap}
theorem g_low_fault (T : Tx mg base) (D0 : Dk P w K mg base "rests_number" "rests_number" t_rests_number 6 ["n"] (sp_rests_number K)) (D1 : Dk P w K mg base "greatest_order" "greatest_order" t_greatest_order 6 ["n"] (sp_greatest_order K)) (D2 : Dk P w K mg base "common_divisor" "common_divisor" t_common_divisor 1 ["one", "other"] (sp_common_divisor K)) (D3 : Dk P w K mg base "power_rest" "power_rest" t_power_rest 1 ["number", "e", "n"] (sp_power_rest K)) {f : Addr} {fd : FuncData} (F : Fun K "low_fault" "low_fault" t_low_fault f fd) : FnG P w K mg base CX0 7 f fd ["n", "k"] (sp_low_fault K) := by
  obtain ⟨f0, fd0, F0, m0, G0, b0⟩ := D0
  obtain ⟨f1, fd1, F1, m1, G1, b1⟩ := D1
  obtain ⟨f2, fd2, F2, m2, G2, b2⟩ := D2
  obtain ⟨f3, fd3, F3, m3, G3, b3⟩ := D3
  refine okG0 F sc_low_fault (fun vs H Q E h => ?_) (fun cdv A outer s0_ H0 vs Q E hr gd h => ?_)
  · obtain ⟨_, _, _, _, _, _, _, _, ⟨_, _, rfl, _, ⟨_, rfl, _⟩⟩, _⟩ := h
    rfl
  · obtain ⟨_, a, S0, s0, r, s', e0, p0, ⟨_, _, rfl, rfl, ⟨_, rfl, rfl⟩⟩, hm0, fin0⟩ := h
    obtain ⟨p_n, p_k⟩ := a
    have fin : ∀ v {H' : Hp}, (∃ S', Gm (pt0).M S0 H0 S' H' ∧ PotAt pt0 s' S' H' ∧ (rO (rU rS (rT K (aCons rS (aOne rI))))) r v S') → Q v H' := fun v {H'} ⟨S', h1, h2, h3⟩ => fin0 v S' H' h1 h2 h3
    have w0 : Wd pt0 S0 H0 S0 H0 [] := Wd.start e0
    have hm0 : Mir.run (m_low_fault p_n p_k) s0 = some (r, s') := hm0
    unfold m_low_fault at hm0
    have sc := sc_low_fault
    refine ⟨_, pss_cons (ps_if (pt_cmpR op_ge (pv 1) (pe_cG G0 (hr.mono (by decide)) gd rfl m0 F0.kp b0 pass0 (pa_cons (pv 0) (pa_nil))) (nomark _)) (pss_cons (ps_ret (pe_str)) (pss_nil)) (pss_nil)) (pss_cons (ps_if (pt_cmpR op_eq (pe_op op_mod (pv 1) (pe_cG G1 (hr.mono (by decide)) gd rfl m1 F1.kp b1 pass0 (pa_cons (pv 0) (pa_nil)))) (pe_int) (nomark _)) (pss_cons (ps_ret (pe_non)) (pss_nil)) (pss_nil)) (pss_cons (ps_set (i := 2) sc.nd rfl (by first | exact Or.inl rfl | exact Or.inr rfl) (pe_int)) (pss_cons (ps_while PassesOwn.never (PW.pt (pw_or (pt_cmpR op_gt (pe_cG G2 (hr.mono (by decide)) gd rfl m2 F2.kp b2 pass0 (pa_cons (pv 2) (pa_cons (pv 0) (pa_nil)))) (pe_int) (nomark _)) (pw_or1 (pt_cmpR op_eq (pe_cG G3 (hr.mono (by decide)) gd rfl m3 F3.kp b3 pass0 (pa_cons (pv 2) (pa_cons (pv 1) (pa_cons (pv 0) (pa_nil))))) (pe_op op_mod (pe_int) (pv 0)) (nomark _))))) (pss_cons (ps_set (i := 2) sc.nd rfl (by first | exact Or.inl rfl | exact Or.inr rfl) (pe_op op_add (pv 2) (pe_int))) (pss_nil))) (pss_cons (ps_ret (pe_tup (pa_cons (pe_str) (pa_cons (pv 2) (pa_nil))))) (pss_nil))))), ?_⟩
    refine q_if w0 p0 (t_Test (e_ge (e_var (R := rI) rfl rfl) (Ev.eta (e_call (E := E0) (fm := fm_rests_number) (R := rI) (a_one (e_var (R := rI) rfl rfl)))))) hm0 ?_ ?_
    · intro S1 H2 s3 w4 p5 g6 hm7
      refine q_ret w4 p5 (Ev.some (Ev.inl (R' := (rT K (aCons rS (aOne rI)))) e_cS)) hm7 ?_
      intro r15 v16 S8 H9 s10 w11 p12 g14 rr17 hm13
      cases run_of_pure hm13
      exact fin _ ⟨S8, w11.g, p12, rr17⟩
    · intro S18 H19 s20 w21 p22 g23 hm24
      refine nx_done ?_
      refine q_if w21 p22 (t_Test (e_eq (e_mod (e_var (R := rI) rfl rfl) (Ev.eta (e_call (E := E0) (fm := fm_greatest_order) (R := rI) (a_one (e_var (R := rI) rfl rfl))))) e_cI)) hm24 ?_ ?_
      · intro S25 H26 s27 w28 p29 g30 hm31
        refine q_ret w28 p29 (Ev.none (R := (rU rS (rT K (aCons rS (aOne rI))))) e_cN) hm31 ?_
        intro r39 v40 S32 H33 s34 w35 p36 g38 rr41 hm37
        cases run_of_pure hm37
        exact fin _ ⟨S32, w35.g, p36, rr41⟩
      · intro S42 H43 s44 w45 p46 g47 hm48
        refine nx_done ?_
        refine q_set (fun v => [some (.int p_n), some (.int p_k), some v]) (fun _ => rfl) w45 p46 e_cI hm48 ?_
        intro a49 va57 S50 H51 s52 w53 p54 g56 ra58 hm55
        cases (show va57 = .int a49 from ra58)
        refine q_wh (p := pt0) (fun st59 σ S' H' s' => σ = [some (.int p_n), some (.int p_k), some (.int st59)] ∧ Wd pt0 S0 H0 S' H' [] ∧ PotAt pt0 s' S' H' ∧ Ex S50 S') ⟨rfl, w53, p54, Ex.rf⟩ hm55 ?_ ?_ ?_ ?_
        · rintro st59 _ S65 H66 s67 ⟨rfl, w62, p63, eb64⟩
          exact ⟨p63, w62.i, (t_or (t_Test (e_gt (Ev.eta (e_call (E := E0) (fm := fm_common_divisor) (R := rI) (a_cons (e_var (R := rI) rfl rfl) (a_one (e_var (R := rI) rfl rfl))))) e_cI)) (t_Test (e_eq (Ev.eta (e_call (E := E0) (fm := fm_power_rest) (R := rI) (a_cons (e_var (R := rI) rfl rfl) (a_cons (e_var (R := rI) rfl rfl) (a_one (e_var (R := rI) rfl rfl)))))) (e_mod e_cI (e_var (R := rI) rfl rfl)))))⟩
        · rintro st59 _ S71 H72 s73 S74 H75 s76 ⟨rfl, w68, p69, eb70⟩ g77 p78
          exact ⟨rfl, w68.go g77, p78, eb70.tr g77.s⟩
        · rintro st59 _ S82 H83 s84 st59_ s2_ D_ ⟨rfl, w79, p80, eb81⟩ hm85 nx86
          refine q_set (fun v => [some (.int p_n), some (.int p_k), some v]) (fun _ => rfl) w79 p80 (e_add (e_var (R := rI) rfl rfl) e_cI) hm85 ?_
          intro a90 va98 S91 H92 s93 w94 p95 g97 ra99 hm96
          cases (show va98 = .int a90 from ra99)
          have eb81 := eb81.tr g97.s
          cases run_of_pure hm96
          exact (nx86 _ _ _ ⟨rfl, w94, p95, eb81⟩).1
        · rintro st59 _ S103 H104 s105 ⟨rfl, w100, p101, eb102⟩ hm106
          refine q_ret w100 p101 (Ev.some (Ev.inr (R' := rS) (e_tup (K := K) (a_cons e_cS (a_one (e_var (R := rI) rfl rfl))) (arN_cons arN_one) (by decide)))) hm106 ?_
          intro r114 v115 S107 H108 s109 w110 p111 g113 rr116 hm112
          cases run_of_pure hm112
          exact fin _ ⟨S107, w110.g, p111, rr116⟩
end
abbrev t_root_paper_error : Stmt := top 43
theorem sc_root_paper_error : FnScope ["n", "value", "order", "word", "own"] ["n", "value"] (defScope t_root_paper_error) := ⟨rfl, rfl, rfl, by decide +kernel, rfl, by decide +kernel, by decide +kernel⟩
@[irreducible] noncomputable def m_root_paper_error (p_n : Int) (p_value : (Str × Int)) : Option (Option (Str ⊕ (Str × Int))) :=
if ((!true) || ((!decide ((2 : Int) = (2 : Int))) || (!true))) = true then
(bnd (some ((Sum.inl ("form" : Str)) : (Str ⊕ (Str × Int)))) fun r15 => pure r15)
else
(bnd p_value fun t25 =>
Mir.lft (grd (List.length ([("root" : Str), ("low" : Str)] : List Str) ≤ 16000000)) >>= fun _ => (if (!List.any ([("root" : Str), ("low" : Str)] : List Str) fun y_ => decide (y_ = t25.1)) = true then pure true else Mir.lft (m_is_integer t25.2) >>= fun r131 => pure ((!r131) || (!((decide ((1 : Int) ≤ t25.2)) && (decide (t25.2 ≤ p_n)))))) >>= fun b130 => if b130 = true then
(bnd (some ((Sum.inl ("form" : Str)) : (Str ⊕ (Str × Int)))) fun r48 => pure r48)
else
(if (decide (t25.1 = ("low" : Str))) = true then
(Mir.lft (m_low_fault p_n t25.2) >>= fun r75 => bnd r75 fun r72 => pure r72)
else
(Mir.lft (m_common_divisor t25.2 p_n) >>= fun r129 => if (decide ((1 : Int) < r129)) = true then
(bnd (some ((Sum.inl ("shares" : Str)) : (Str ⊕ (Str × Int)))) fun r97 => pure r97)
else
(Mir.lft (m_power_order t25.2 p_n) >>= fun r128 => bnd r128 fun order107 =>
Mir.lft (m_rests_number p_n) >>= fun r127 => bnd (if (!decide (order107 = r127)) = true then (some ((Sum.inr (("order" : Str), order107)) : (Str ⊕ (Str × Int)))) else none) fun r124 => pure r124))))
noncomputable abbrev fm_root_paper_error : (Int × (Str × Int)) → Option (Option (Str ⊕ (Str × Int))) := fun (a0, a1) => m_root_paper_error a0 a1
abbrev sp_root_paper_error (K : PySem.W.Frag) : Sp := spV F0 fm_root_paper_error (fun _ => (aCons rI (aOne (rT K (aCons rS (aOne rI)))))) (rO (rU rS (rT K (aCons rS (aOne rI)))))
section
variable {P : Program} {w : World} {K : PySem.W.Frag} {mg : Str → Option Value} {base : Heap}
theorem g_root_paper_error (T : Tx mg base) (D0 : Dk P w K mg base "is_integer" "is_integer" t_is_integer 1 ["value"] (sp_is_integer K)) (D1 : Dk P w K mg base "low_fault" "low_fault" t_low_fault 7 ["n", "k"] (sp_low_fault K)) (D2 : Dk P w K mg base "common_divisor" "common_divisor" t_common_divisor 1 ["one", "other"] (sp_common_divisor K)) (D3 : Dk P w K mg base "power_order" "power_order" t_power_order 7 ["a", "n"] (sp_power_order K)) (D4 : Dk P w K mg base "rests_number" "rests_number" t_rests_number 6 ["n"] (sp_rests_number K)) {f : Addr} {fd : FuncData} (F : Fun K "root_paper_error" "root_paper_error" t_root_paper_error f fd) : FnG P w K mg base CX0 8 f fd ["n", "value"] (sp_root_paper_error K) := by
  obtain ⟨f0, fd0, F0, m0, G0, b0⟩ := D0
  obtain ⟨f1, fd1, F1, m1, G1, b1⟩ := D1
  obtain ⟨f2, fd2, F2, m2, G2, b2⟩ := D2
  obtain ⟨f3, fd3, F3, m3, G3, b3⟩ := D3
  obtain ⟨f4, fd4, F4, m4, G4, b4⟩ := D4
  refine okG0 F sc_root_paper_error (fun vs H Q E h => ?_) (fun cdv A outer s0_ H0 vs Q E hr gd h => ?_)
  · obtain ⟨_, _, _, _, _, _, _, _, ⟨_, _, rfl, _, ⟨_, rfl, _⟩⟩, _⟩ := h
    rfl
  · obtain ⟨_, a, S0, s0, r, s', e0, p0, ⟨_, _, rfl, rfl, ⟨v_value, rfl, r_value⟩⟩, hm0, fin0⟩ := h
    obtain ⟨p_n, p_value⟩ := a
    have fin : ∀ v {H' : Hp}, (∃ S', Gm (pt0).M S0 H0 S' H' ∧ PotAt pt0 s' S' H' ∧ (rO (rU rS (rT K (aCons rS (aOne rI))))) r v S') → Q v H' := fun v {H'} ⟨S', h1, h2, h3⟩ => fin0 v S' H' h1 h2 h3
    have w0 : Wd pt0 S0 H0 S0 H0 [] := Wd.start e0
    have hm0 : Mir.run (m_root_paper_error p_n p_value) s0 = some (r, s') := hm0
    unfold m_root_paper_error at hm0
    have sc := sc_root_paper_error
    refine ⟨_, pss_cons (ps_if (PW.pt (pw_or (pt_not (pt_val (pe_callB (k_isi K) (by rfl) T.n_isinstance (by decide +kernel) (pa_cons (pv 1) (pa_cons (pe_bltn (v := .ty "tuple") (u := .type "tuple") rfl T.n_tuple (by decide +kernel) rfl) pa_nil))))) (pw_or (pt_cmpR op_ne (pe_callB (k_len K) (by rfl) T.n_len (by decide +kernel) (pa_cons (pv 1) pa_nil)) (pe_int) (nomark _)) (pw_or1 (pt_not (pt_val (pe_callB (k_isi K) (by rfl) T.n_isinstance (by decide +kernel) (pa_cons (pe_ix (k_ixT K) (pv 1) (pe_int) (fun _ _ => rfl)) (pa_cons (pe_bltn (v := .ty "str") (u := .type "str") rfl T.n_str (by decide +kernel) rfl) pa_nil))))))))) (pss_cons (ps_ret (pe_str)) (pss_nil)) (pss_nil)) (pss_cons (ps_asg (pv 1) (k_gt K (pgs_cons (pg_name (i := 3) sc.nd rfl (by first | exact Or.inl rfl | exact Or.inr rfl)) (pgs_cons (pg_name (i := 4) sc.nd rfl (by first | exact Or.inl rfl | exact Or.inr rfl)) (pgs_nil))))) (pss_cons (ps_if (PW.pt (pw_or (pt_cmpR (k_notin K) (pv 3) (pe_tup (pa_cons (pe_str) (pa_cons (pe_str) (pa_nil)))) (by rfl)) (pw_or (pt_not (pt_val (pe_cG G0 (hr.mono (by decide)) gd rfl m0 F0.kp b0 pass0 (pa_cons (pv 4) (pa_nil))))) (pw_or1 (pt_not (pt_chain op_le op_le (pe_int) (pv 4) (pv 0))))))) (pss_cons (ps_ret (pe_str)) (pss_nil)) (pss_nil)) (pss_cons (ps_if (pt_cmpR op_eq (pv 3) (pe_str) (nomark _)) (pss_cons (ps_ret (pe_cG G1 (hr.mono (by decide)) gd rfl m1 F1.kp b1 pass0 (pa_cons (pv 0) (pa_cons (pv 4) (pa_nil))))) (pss_nil)) (pss_nil)) (pss_cons (ps_if (pt_cmpR op_gt (pe_cG G2 (hr.mono (by decide)) gd rfl m2 F2.kp b2 pass0 (pa_cons (pv 4) (pa_cons (pv 0) (pa_nil)))) (pe_int) (nomark _)) (pss_cons (ps_ret (pe_str)) (pss_nil)) (pss_nil)) (pss_cons (ps_set (i := 2) sc.nd rfl (by first | exact Or.inl rfl | exact Or.inr rfl) (pe_cG G3 (hr.mono (by decide)) gd rfl m3 F3.kp b3 pass0 (pa_cons (pv 4) (pa_cons (pv 0) (pa_nil))))) (pss_cons (ps_ret (pe_ifExp (pt_cmpR op_ne (pv 2) (pe_cG G4 (hr.mono (by decide)) gd rfl m4 F4.kp b4 pass0 (pa_cons (pv 0) (pa_nil))) (nomark _)) (pe_tup (pa_cons (pe_str) (pa_cons (pv 2) (pa_nil)))) (pe_non))) (pss_nil))))))), ?_⟩
    refine q_if w0 p0 (t_orT (t_not (t_B (c_isi (K := K) (U := "tuple") (b := true) (e_var rfl r_value) ty_T (kit_ty (by decide +kernel))))) (t_orT (t_Test (e_ne (c_lenN (n := 2) (e_var rfl r_value) (arL_cons arL_one)) e_cI)) (t_not (t_B (c_isi (K := K) (U := "str") (b := true) (e_ixC (n := 0) (mB := fun k => k 0) (A := (aCons rS (aOne rI))) (R := rS) (f := fun a => a.1) (e_var rfl r_value) rfl (fun a vs S h => by obtain ⟨_, _, rfl, h0, ⟨_, rfl, h1⟩⟩ := h; exact ⟨_, rfl, h0⟩)) ty_S (kit_ty (by decide +kernel))))))) hm0 ?_ ?_
    · intro S1 H2 s3 w4 p5 g6 hm7
      have r_value := Mo.mo g6.s r_value
      refine q_ret w4 p5 (Ev.some (Ev.inl (R' := (rT K (aCons rS (aOne rI)))) e_cS)) hm7 ?_
      intro r15 v16 S8 H9 s10 w11 p12 g14 rr17 hm13
      cases run_of_pure hm13
      exact fin _ ⟨S8, w11.g, p12, rr17⟩
    · intro S18 H19 s20 w21 p22 g23 hm24
      have r_value := Mo.mo g23.s r_value
      refine nx_done ?_
      refine q_unp w21 p22 (e_var rfl r_value) (g_tp (gq_cons (g_nm (R := rS)) (gq_one (g_nm (R := rI))))) hm24 ?_
      intro t25 σ33 S26 H27 s28 w29 p30 g32 hp hm31
      have r_value := Mo.mo g32.s r_value
      obtain ⟨_, ⟨_, rfl, rfl⟩, ⟨_, rfl, rfl⟩⟩ := hp
      refine q_if w29 p30 (t_or (t_Test (e_inS (neg := true) (e_var (R := rS) rfl rfl) (e_tupL (K := K) (a_consL e_cS (a_consL e_cS (a_nilL (R := rS))))))) (t_orT (t_not (t_B (Ev.eta (e_call (E := E0) (fm := fm_is_integer) (R := rB) (a_one (e_var (R := rI) rfl rfl)))))) (t_not (t_Test (e_chainT ci_le ci_le e_cI (e_var (R := rI) rfl rfl) (e_var (R := rI) rfl rfl)))))) hm31 ?_ ?_
      · intro S34 H35 s36 w37 p38 g39 hm40
        have r_value := Mo.mo g39.s r_value
        refine q_ret w37 p38 (Ev.some (Ev.inl (R' := (rT K (aCons rS (aOne rI)))) e_cS)) hm40 ?_
        intro r48 v49 S41 H42 s43 w44 p45 g47 rr50 hm46
        cases run_of_pure hm46
        exact fin _ ⟨S41, w44.g, p45, rr50⟩
      · intro S51 H52 s53 w54 p55 g56 hm57
        have r_value := Mo.mo g56.s r_value
        refine nx_done ?_
        refine q_if w54 p55 (t_Test (e_eq (e_var (R := rS) rfl rfl) e_cS)) hm57 ?_ ?_
        · intro S58 H59 s60 w61 p62 g63 hm64
          have r_value := Mo.mo g63.s r_value
          refine q_ret w61 p62 (Ev.eta (e_call (E := E0) (fm := fm_low_fault) (R := (rO (rU rS (rT K (aCons rS (aOne rI)))))) (a_cons (e_var (R := rI) rfl rfl) (a_one (e_var (R := rI) rfl rfl))))) hm64 ?_
          intro r72 v73 S65 H66 s67 w68 p69 g71 rr74 hm70
          cases run_of_pure hm70
          exact fin _ ⟨S65, w68.g, p69, rr74⟩
        · intro S76 H77 s78 w79 p80 g81 hm82
          have r_value := Mo.mo g81.s r_value
          refine nx_done ?_
          refine q_if w79 p80 (t_Test (e_gt (Ev.eta (e_call (E := E0) (fm := fm_common_divisor) (R := rI) (a_cons (e_var (R := rI) rfl rfl) (a_one (e_var (R := rI) rfl rfl))))) e_cI)) hm82 ?_ ?_
          · intro S83 H84 s85 w86 p87 g88 hm89
            have r_value := Mo.mo g88.s r_value
            refine q_ret w86 p87 (Ev.some (Ev.inl (R' := (rT K (aCons rS (aOne rI)))) e_cS)) hm89 ?_
            intro r97 v98 S90 H91 s92 w93 p94 g96 rr99 hm95
            cases run_of_pure hm95
            exact fin _ ⟨S90, w93.g, p94, rr99⟩
          · intro S100 H101 s102 w103 p104 g105 hm106
            have r_value := Mo.mo g105.s r_value
            refine nx_done ?_
            refine q_set (fun v => [some (.int p_n), some v_value, some v, some (.str t25.1), some (.int t25.2)]) (fun _ => rfl) w103 p104 (Ev.eta (e_call (E := E0) (fm := fm_power_order) (R := rI) (a_cons (e_var (R := rI) rfl rfl) (a_one (e_var (R := rI) rfl rfl))))) hm106 ?_
            intro order107 vorder115 S108 H109 s110 w111 p112 g114 rorder116 hm113
            cases (show vorder115 = .int order107 from rorder116)
            have r_value := Mo.mo g114.s r_value
            refine q_ret w111 p112 (e_ifT (R := (rO (rU rS (rT K (aCons rS (aOne rI)))))) (t_Test (e_ne (e_var (R := rI) rfl rfl) (Ev.eta (e_call (E := E0) (fm := fm_rests_number) (R := rI) (a_one (e_var (R := rI) rfl rfl)))))) (Ev.some (Ev.inr (R' := rS) (e_tup (K := K) (a_cons e_cS (a_one (e_var (R := rI) rfl rfl))) (arN_cons arN_one) (by decide)))) (Ev.none (R := (rU rS (rT K (aCons rS (aOne rI))))) e_cN)) hm113 ?_
            intro r124 v125 S117 H118 s119 w120 p121 g123 rr126 hm122
            cases run_of_pure hm122
            exact fin _ ⟨S117, w120.g, p121, rr126⟩
end
abbrev t_root_index : Stmt := top 44
theorem sc_root_index : FnScope ["n", "root", "a", "found", "here"] ["n", "root", "a"] (defScope t_root_index) := ⟨rfl, rfl, rfl, by decide +kernel, rfl, by decide +kernel, by decide +kernel⟩
@[irreducible] noncomputable def m_root_index (p_n : Int) (p_root : Int) (p_a : Int) : Option Int :=
bnd (0 : Int) fun found1 =>
Mir.lft (grd (0 < p_n)) >>= fun _ => bnd ((1 : Int) % p_n) fun here11 =>
(whS many (fun (st21 : Int × Int) k => Mir.lft (grd (0 < p_n)) >>= fun _ => k (!decide (st21.2 = (p_a % p_n)))) (fun (st21 : Int × Int) =>
bnd (st21.1 + (1 : Int)) fun found52 =>
Mir.lft (grd (Sm st21.2 ∧ Sm p_root)) >>= fun _ => Mir.lft (grd (0 < p_n)) >>= fun _ => bnd ((st21.2 * p_root) % p_n) fun here62 =>
pure (found52, here62)) (found1, here11)) >>= fun (st21 : Int × Int) =>
bnd st21.1 fun r86 => pure r86
noncomputable abbrev fm_root_index : (Int × Int × Int) → Option Int := fun (a0, a1, a2) => m_root_index a0 a1 a2
abbrev sp_root_index (K : PySem.W.Frag) : Sp := spV F0 fm_root_index (fun _ => (aCons rI (aCons rI (aOne rI)))) rI
section
variable {P : Program} {w : World} {K : PySem.W.Frag} {mg : Str → Option Value} {base : Heap}
theorem g_root_index (T : Tx mg base)  {f : Addr} {fd : FuncData} (F : Fun K "root_index" "root_index" t_root_index f fd) : FnG P w K mg base CX0 1 f fd ["n", "root", "a"] (sp_root_index K) := by
  refine okG0 F sc_root_index (fun vs H Q E h => ?_) (fun cdv A outer s0_ H0 vs Q E hr gd h => ?_)
  · obtain ⟨_, _, _, _, _, _, _, _, ⟨_, _, rfl, _, ⟨_, _, rfl, _, ⟨_, rfl, _⟩⟩⟩, _⟩ := h
    rfl
  · obtain ⟨_, a, S0, s0, r, s', e0, p0, ⟨_, _, rfl, rfl, ⟨_, _, rfl, rfl, ⟨_, rfl, rfl⟩⟩⟩, hm0, fin0⟩ := h
    obtain ⟨p_n, p_root, p_a⟩ := a
    have fin : ∀ v {H' : Hp}, (∃ S', Gm (pt0).M S0 H0 S' H' ∧ PotAt pt0 s' S' H' ∧ rI r v S') → Q v H' := fun v {H'} ⟨S', h1, h2, h3⟩ => fin0 v S' H' h1 h2 h3
    have w0 : Wd pt0 S0 H0 S0 H0 [] := Wd.start e0
    have hm0 : Mir.run (m_root_index p_n p_root p_a) s0 = some (r, s') := hm0
    unfold m_root_index at hm0
    have sc := sc_root_index
    refine ⟨_, pss_cons (ps_par (i := 3) (j := 4) rfl sc.nd rfl rfl (by decide) rfl rfl (pa_cons (pe_int) (pa_cons (pe_op op_mod (pe_int) (pv 0)) (pa_nil))) (by rfl)) (pss_cons (ps_while PassesOwn.never (pt_cmpR op_ne (pv 4) (pe_op op_mod (pv 2) (pv 0)) (nomark _)) (pss_cons (ps_par (i := 3) (j := 4) rfl sc.nd rfl rfl (by decide) rfl rfl (pa_cons (pe_op op_add (pv 3) (pe_int)) (pa_cons (pe_op op_mod (pe_op op_mulX (pv 4) (pv 1)) (pv 0)) (pa_nil))) (by rfl)) (pss_nil))) (pss_cons (ps_ret (pv 3)) (pss_nil))), ?_⟩
    refine par_go ?_
    refine x_ev w0 p0 e_cI hm0 ?_
    intro found1 vfound9 S2 H3 s4 w5 p6 g8 rfound10 hm7
    cases (show vfound9 = .int found1 from rfound10)
    refine x_ev w5 p6 (e_mod e_cI (e_var (R := rI) rfl rfl)) hm7 ?_
    intro here11 vhere19 S12 H13 s14 w15 p16 g18 rhere20 hm17
    cases (show vhere19 = .int here11 from rhere20)
    refine par_end [some (.int p_n), some (.int p_root), some (.int p_a), some (.int found1), some (.int here11)] rfl ?_
    refine q_wh (p := pt0) (fun st21 σ S' H' s' => σ = [some (.int p_n), some (.int p_root), some (.int p_a), some (.int st21.1), some (.int st21.2)] ∧ Wd pt0 S0 H0 S' H' [] ∧ PotAt pt0 s' S' H' ∧ Ex S12 S') ⟨rfl, w15, p16, Ex.rf⟩ hm17 ?_ ?_ ?_ ?_
    · rintro st21 _ S27 H28 s29 ⟨rfl, w24, p25, eb26⟩
      exact ⟨p25, w24.i, (t_Test (e_ne (e_var (R := rI) rfl rfl) (e_mod (e_var (R := rI) rfl rfl) (e_var (R := rI) rfl rfl))))⟩
    · rintro st21 _ S33 H34 s35 S36 H37 s38 ⟨rfl, w30, p31, eb32⟩ g39 p40
      exact ⟨rfl, w30.go g39, p40, eb32.tr g39.s⟩
    · rintro st21 _ S44 H45 s46 st21_ s2_ D_ ⟨rfl, w41, p42, eb43⟩ hm47 nx48
      refine par_go ?_
      refine x_ev w41 p42 (e_add (e_var (R := rI) rfl rfl) e_cI) hm47 ?_
      intro found52 vfound60 S53 H54 s55 w56 p57 g59 rfound61 hm58
      cases (show vfound60 = .int found52 from rfound61)
      have eb43 := eb43.tr g59.s
      refine x_ev w56 p57 (e_mod (e_mul (e_var (R := rI) rfl rfl) (e_var (R := rI) rfl rfl)) (e_var (R := rI) rfl rfl)) hm58 ?_
      intro here62 vhere70 S63 H64 s65 w66 p67 g69 rhere71 hm68
      cases (show vhere70 = .int here62 from rhere71)
      have eb43 := eb43.tr g69.s
      refine par_end [some (.int p_n), some (.int p_root), some (.int p_a), some (.int found52), some (.int here62)] rfl ?_
      cases run_of_pure hm68
      exact (nx48 _ _ _ ⟨rfl, w66, p67, eb43⟩).1
    · rintro st21 _ S75 H76 s77 ⟨rfl, w72, p73, eb74⟩ hm78
      refine q_ret w72 p73 (e_var (R := rI) rfl rfl) hm78 ?_
      intro r86 v87 S79 H80 s81 w82 p83 g85 rr88 hm84
      cases run_of_pure hm84
      exact fin _ ⟨S79, w82.g, p83, rr88⟩
end
abbrev t__law_of : Stmt := top 47
theorem sc__law_of : FnScope ["pot", "many", "number", "cell"] ["pot", "many"] (defScope t__law_of) := ⟨rfl, rfl, rfl, by decide +kernel, rfl, by decide +kernel, by decide +kernel⟩
@[irreducible] noncomputable def m__law_of (p_many : Int) : PM PotT Int :=
if (decide (p_many < (2 : Int))) = true then
(bnd (0 : Int) fun r15 => pure r15)
else
(potS >>= fun s26 => if (neG s26) = true then
(popL >>= fun c35 => bnd c35 fun cell36 =>
((if (decide (p_many ≤ cell36)) = true then
(Mir.lft (grd (Dv p_many)) >>= fun _ => potS >>= fun s57 => Mir.lft (grd (s57.great.length < 16000000)) >>= fun _ => potW (fun s => { s with great := s.great ++ [(cell36 / p_many)] }) >>= fun _ => pure ())
else
(pure ())) >>= fun (st46 : Unit) =>
Mir.lft (grd (0 < p_many)) >>= fun _ => bnd (cell36 % p_many) fun r89 => pure r89))
else
(potS >>= fun s99 => potW (fun s => { s with turn := ((PotT.turn s99) + (1 : Int)) }) >>= fun _ =>
potS >>= fun s107 => potS >>= fun s108 => Mir.lft (grd (Sm (PotT.turn s108) ∧ Sm (2654435761 : Int))) >>= fun _ => Mir.lft (grd (0 < (4294967279 : Int))) >>= fun _ => bnd (((PotT.mix s107) + ((PotT.turn s108) * (2654435761 : Int))) % (4294967279 : Int)) fun number109 =>
Mir.lft (grd (Sm number109 ∧ Sm number109)) >>= fun _ => potS >>= fun s119 => Mir.lft (grd (Sm (PotT.turn s119) ∧ Sm (40503 : Int))) >>= fun _ => Mir.lft (grd (0 < (4294967231 : Int))) >>= fun _ => bnd ((((number109 * number109) + ((PotT.turn s119) * (40503 : Int))) + (5 : Int)) % (4294967231 : Int)) fun number120 =>
Mir.lft (grd (Sm number120 ∧ Sm number120)) >>= fun _ => potS >>= fun s130 => Mir.lft (grd (0 < (4294967291 : Int))) >>= fun _ => bnd (((number120 * number120) + (PotT.mix s130)) % (4294967291 : Int)) fun number131 =>
Mir.lft (grd (Dv (256 : Int))) >>= fun _ => Mir.lft (grd (0 < p_many)) >>= fun _ => bnd ((number131 / (256 : Int)) % p_many) fun r148 => pure r148))
noncomputable abbrev fm__law_of : (Unit × Int) → PM PotT Int := fun (_, a1) => m__law_of a1
abbrev sp__law_of (K : PySem.W.Frag) : Sp := spV (fun i => potPt i) fm__law_of (fun i => (aCons (rP i) (aOne rI))) rI
section
variable {P : Program} {w : World} {K : PySem.W.Frag} {mg : Str → Option Value} {base : Heap}
theorem g__law_of (T : Tx mg base)  {f : Addr} {fd : FuncData} (F : Fun K "_law_of" "_law_of" t__law_of f fd) : FnG P w K mg base CX0 1 f fd ["pot", "many"] (sp__law_of K) := by
  refine okG0 F sc__law_of (fun vs H Q E h => ?_) (fun cdv A outer s0_ H0 vs Q E hr gd h => ?_)
  · obtain ⟨_, _, _, _, _, _, _, _, ⟨_, _, rfl, _, ⟨_, rfl, _⟩⟩, _⟩ := h
    rfl
  · obtain ⟨i, a, S0, s0, r, s', e0, p0, ⟨_, _, rfl, rfl, ⟨_, rfl, rfl⟩⟩, hm0, fin0⟩ := h
    obtain ⟨_, p_many⟩ := a
    have fin : ∀ v {H' : Hp}, (∃ S', Gm ((potPt i)).M S0 H0 S' H' ∧ PotAt (potPt i) s' S' H' ∧ rI r v S') → Q v H' := fun v {H'} ⟨S', h1, h2, h3⟩ => fin0 v S' H' h1 h2 h3
    have w0 : Wd (potPt i) S0 H0 S0 H0 [] := Wd.start e0
    have hm0 : Mir.run (m__law_of p_many) s0 = some (r, s') := hm0
    unfold m__law_of at hm0
    have sc := sc__law_of
    refine ⟨_, pss_cons (ps_if (pt_cmpR op_lt (pv 1) (pe_int) (nomark _)) (pss_cons (ps_ret (pe_int)) (pss_nil)) (pss_nil)) (pss_cons (ps_if (pt_cmpR (k_neD K hr) (pe_ix (k_ixL K) (pv 0) (pe_int) (fun _ _ => rfl)) (pe_lst pa_nil) (nomark _)) (pss_cons (ps_set (i := 3) sc.nd rfl (by first | exact Or.inl rfl | exact Or.inr rfl) (pe_bm0 PySem.F.plainAttrs_list PySem.F.slot_list_pop PySem.F.type_list_pop mt_pop (pe_ix (k_ixL K) (pv 0) (pe_int) (fun _ _ => rfl)))) (pss_cons (ps_if (pt_cmpR op_ge (pv 3) (pv 1) (nomark _)) (pss_cons (ps_expr (pe_bm PySem.F.plainAttrs_list PySem.F.slot_list_append PySem.F.type_list_append mt_append (pe_ix (k_ixL K) (pv 0) (pe_int) (fun _ _ => rfl)) (pa_cons (pe_op op_fdivW (pv 3) (pv 1)) pa_nil))) (pss_nil)) (pss_nil)) (pss_cons (ps_ret (pe_op op_mod (pv 3) (pv 1))) (pss_nil)))) (pss_nil)) (pss_cons (ps_asg (pe_op op_add (pe_ix (k_ixL K) (pv 0) (pe_int) (fun _ _ => rfl)) (pe_int)) (pg_sub (pv 0) pe_int set_list)) (pss_cons (ps_set (i := 2) sc.nd rfl (by first | exact Or.inl rfl | exact Or.inr rfl) (pe_op op_mod (pe_op op_add (pe_ix (k_ixL K) (pv 0) (pe_int) (fun _ _ => rfl)) (pe_op op_mulX (pe_ix (k_ixL K) (pv 0) (pe_int) (fun _ _ => rfl)) (pe_int))) (pe_int))) (pss_cons (ps_set (i := 2) sc.nd rfl (by first | exact Or.inl rfl | exact Or.inr rfl) (pe_op op_mod (pe_op op_add (pe_op op_add (pe_op op_mulX (pv 2) (pv 2)) (pe_op op_mulX (pe_ix (k_ixL K) (pv 0) (pe_int) (fun _ _ => rfl)) (pe_int))) (pe_int)) (pe_int))) (pss_cons (ps_set (i := 2) sc.nd rfl (by first | exact Or.inl rfl | exact Or.inr rfl) (pe_op op_mod (pe_op op_add (pe_op op_mulX (pv 2) (pv 2)) (pe_ix (k_ixL K) (pv 0) (pe_int) (fun _ _ => rfl))) (pe_int))) (pss_cons (ps_ret (pe_op op_mod (pe_op op_fdivW (pv 2) (pe_int)) (pv 1))) (pss_nil))))))), ?_⟩
    refine q_if w0 p0 (t_Test (e_lt (e_var (R := rI) rfl rfl) e_cI)) hm0 ?_ ?_
    · intro S1 H2 s3 w4 p5 g6 hm7
      refine q_ret w4 p5 e_cI hm7 ?_
      intro r15 v16 S8 H9 s10 w11 p12 g14 rr17 hm13
      cases run_of_pure hm13
      exact fin _ ⟨S8, w11.g, p12, rr17⟩
    · intro S18 H19 s20 w21 p22 g23 hm24
      refine nx_done ?_
      refine q_if w21 p22 (t_Test (e_neG (dL_G rfl))) hm24 ?_ ?_
      · intro S27 H28 s29 w30 p31 g32 hm33
        refine q_set (fun v => [some (.ref i.a), some (.int p_many), none, some v]) (fun _ => rfl) w30 p31 (e_popL (dL_G rfl)) hm33 ?_
        intro cell36 vcell44 S37 H38 s39 w40 p41 g43 rcell45 hm42
        cases (show vcell44 = .int cell36 from rcell45)
        refine q_ifj (p := (potPt i)) (fun st46 σ S' H' s' => σ = [some (.ref i.a), some (.int p_many), none, some (.int cell36)] ∧ Wd (potPt i) S0 H0 S' H' [] ∧ PotAt (potPt i) s' S' H' ∧ Ex S37 S') w40 p41 (t_Test (e_ge (e_var (R := rI) rfl rfl) (e_var (R := rI) rfl rfl))) hm42 ?_ ?_ ?_
        · intro S47 H48 s49 st46_ s2_ D_ w50 p51 g52 hm53 nx54
          have eb55 := g52.s
          refine q_dropE w50 p51 (e_appG (dL_G rfl) (e_fdiv (e_var (R := rI) rfl rfl) (e_var (R := rI) rfl rfl))) hm53 ?_
          intro x65 S58 H59 s60 w61 p62 g64 hm63
          have eb55 := eb55.tr g64.s
          cases run_of_pure hm63
          exact nx54 _ _ _ ⟨rfl, w61, p62, eb55⟩
        · intro S66 H67 s68 st46_ s2_ D_ w69 p70 g71 hm72 nx73
          have eb74 := g71.s
          cases run_of_pure hm72
          exact nx73 _ _ _ ⟨rfl, w69, p70, eb74⟩
        · rintro st46 _ S78 H79 s80 ⟨rfl, w75, p76, eb77⟩ hm81
          refine q_ret w75 p76 (e_mod (e_var (R := rI) rfl rfl) (e_var (R := rI) rfl rfl)) hm81 ?_
          intro r89 v90 S82 H83 s84 w85 p86 g88 rr91 hm87
          cases run_of_pure hm87
          exact fin _ ⟨S82, w85.g, p86, rr91⟩
      · intro S92 H93 s94 w95 p96 g97 hm98
        refine nx_done ?_
        refine qL_T w95 p96 rfl (e_add (dL_T rfl) e_cI) hm98 ?_
        intro S100 H101 s102 w103 p104 g106 hm105
        refine q_set (fun v => [some (.ref i.a), some (.int p_many), some v, none]) (fun _ => rfl) w103 p104 (e_mod (e_add (dL_S rfl) (e_mul (dL_T rfl) e_cI)) e_cI) hm105 ?_
        intro number109 vnumber117 S110 H111 s112 w113 p114 g116 rnumber118 hm115
        cases (show vnumber117 = .int number109 from rnumber118)
        refine q_set (fun v => [some (.ref i.a), some (.int p_many), some v, none]) (fun _ => rfl) w113 p114 (e_mod (e_add (e_add (e_mul (e_var (R := rI) rfl rfl) (e_var (R := rI) rfl rfl)) (e_mul (dL_T rfl) e_cI)) e_cI) e_cI) hm115 ?_
        intro number120 vnumber128 S121 H122 s123 w124 p125 g127 rnumber129 hm126
        cases (show vnumber128 = .int number120 from rnumber129)
        refine q_set (fun v => [some (.ref i.a), some (.int p_many), some v, none]) (fun _ => rfl) w124 p125 (e_mod (e_add (e_mul (e_var (R := rI) rfl rfl) (e_var (R := rI) rfl rfl)) (dL_S rfl)) e_cI) hm126 ?_
        intro number131 vnumber139 S132 H133 s134 w135 p136 g138 rnumber140 hm137
        cases (show vnumber139 = .int number131 from rnumber140)
        refine q_ret w135 p136 (e_mod (e_fdiv (e_var (R := rI) rfl rfl) e_cI) (e_var (R := rI) rfl rfl)) hm137 ?_
        intro r148 v149 S141 H142 s143 w144 p145 g147 rr150 hm146
        cases run_of_pure hm146
        exact fin _ ⟨S141, w144.g, p145, rr150⟩
end
abbrev t__law_one : Stmt := top 48
theorem sc__law_one : FnScope ["pot", "items"] ["pot", "items"] (defScope t__law_one) := ⟨rfl, rfl, rfl, by decide +kernel, rfl, by decide +kernel, by decide +kernel⟩
@[irreducible] noncomputable def m__law_one (p_items : (List Int)) : PM PotT Int :=
m__law_of (List.length p_items : Int) >>= fun r12 => Mir.lft (L2.atI p_items r12) >>= fun y11 => bnd y11 fun r8 => pure r8
noncomputable abbrev fm__law_one : (Unit × (List Int)) → PM PotT Int := fun (_, a1) => m__law_one a1
abbrev sp__law_one (K : PySem.W.Frag) : Sp := spV (fun i => potPt i) fm__law_one (fun i => (aCons (rP i) (aOne (rL (aAll rI))))) rI
section
variable {P : Program} {w : World} {K : PySem.W.Frag} {mg : Str → Option Value} {base : Heap}
theorem g__law_one (T : Tx mg base) (D0 : Dk P w K mg base "_law_of" "_law_of" t__law_of 1 ["pot", "many"] (sp__law_of K)) {f : Addr} {fd : FuncData} (F : Fun K "_law_one" "_law_one" t__law_one f fd) : FnG P w K mg base CX0 2 f fd ["pot", "items"] (sp__law_one K) := by
  obtain ⟨f0, fd0, F0, m0, G0, b0⟩ := D0
  refine okG0 F sc__law_one (fun vs H Q E h => ?_) (fun cdv A outer s0_ H0 vs Q E hr gd h => ?_)
  · obtain ⟨_, _, _, _, _, _, _, _, ⟨_, _, rfl, _, ⟨_, rfl, _⟩⟩, _⟩ := h
    rfl
  · obtain ⟨i, a, S0, s0, r, s', e0, p0, ⟨_, _, rfl, rfl, ⟨v_items, rfl, r_items⟩⟩, hm0, fin0⟩ := h
    obtain ⟨_, p_items⟩ := a
    have fin : ∀ v {H' : Hp}, (∃ S', Gm ((potPt i)).M S0 H0 S' H' ∧ PotAt (potPt i) s' S' H' ∧ rI r v S') → Q v H' := fun v {H'} ⟨S', h1, h2, h3⟩ => fin0 v S' H' h1 h2 h3
    have w0 : Wd (potPt i) S0 H0 S0 H0 [] := Wd.start e0
    have hm0 : Mir.run (m__law_one p_items) s0 = some (r, s') := hm0
    unfold m__law_one at hm0
    have sc := sc__law_one
    refine ⟨_, pss_cons (ps_ret (pe_ix (k_ixL K) (pv 1) (pe_cG G0 (hr.mono (by decide)) gd rfl m0 F0.kp b0 pass0 (pa_cons (pv 0) (pa_cons (pe_callB (k_len K) (by rfl) T.n_len (by decide +kernel) (pa_cons (pv 1) pa_nil)) (pa_nil)))) (fun _ _ => rfl))) (pss_nil), ?_⟩
    refine q_ret w0 p0 (e_ixL (Ev.rd (e_var rfl r_items)) (Ev.eta (e_callP (F := fun i => potPt i) (i := i) (A := fun i => (aCons (rP i) (aOne rI))) (E := E0) (fm := fm__law_of) (R := rI) (a_cons (e_var (R := rP i) (a := ()) rfl rfl) (a_one (c_lenL (Ev.rd (e_var rfl r_items)))))))) hm0 ?_
    intro r8 v9 S1 H2 s3 w4 p5 g7 rr10 hm6
    cases run_of_pure hm6
    exact fin _ ⟨S1, w4.g, p5, rr10⟩
end
abbrev t__law_common : Stmt := top 49
theorem sc__law_common : FnScope ["a", "b"] ["a", "b"] (defScope t__law_common) := ⟨rfl, rfl, rfl, by decide +kernel, rfl, by decide +kernel, by decide +kernel⟩
@[irreducible] noncomputable def m__law_common (p_a : Int) (p_b : Int) : Option Int :=
(whS many (fun (st1 : Int × Int) k => k (decide ((0 : Int) < st1.2))) (fun (st1 : Int × Int) =>
bnd st1.2 fun a32 =>
Mir.lft (grd (0 < st1.2)) >>= fun _ => bnd (st1.1 % st1.2) fun b42 =>
pure (a32, b42)) (p_a, p_b)) >>= fun (st1 : Int × Int) =>
bnd st1.1 fun r66 => pure r66
noncomputable abbrev fm__law_common : (Int × Int) → Option Int := fun (a0, a1) => m__law_common a0 a1
abbrev sp__law_common (K : PySem.W.Frag) : Sp := spV F0 fm__law_common (fun _ => (aCons rI (aOne rI))) rI
section
variable {P : Program} {w : World} {K : PySem.W.Frag} {mg : Str → Option Value} {base : Heap}
theorem g__law_common (T : Tx mg base)  {f : Addr} {fd : FuncData} (F : Fun K "_law_common" "_law_common" t__law_common f fd) : FnG P w K mg base CX0 1 f fd ["a", "b"] (sp__law_common K) := by
  refine okG0 F sc__law_common (fun vs H Q E h => ?_) (fun cdv A outer s0_ H0 vs Q E hr gd h => ?_)
  · obtain ⟨_, _, _, _, _, _, _, _, ⟨_, _, rfl, _, ⟨_, rfl, _⟩⟩, _⟩ := h
    rfl
  · obtain ⟨_, a, S0, s0, r, s', e0, p0, ⟨_, _, rfl, rfl, ⟨_, rfl, rfl⟩⟩, hm0, fin0⟩ := h
    obtain ⟨p_a, p_b⟩ := a
    have fin : ∀ v {H' : Hp}, (∃ S', Gm (pt0).M S0 H0 S' H' ∧ PotAt pt0 s' S' H' ∧ rI r v S') → Q v H' := fun v {H'} ⟨S', h1, h2, h3⟩ => fin0 v S' H' h1 h2 h3
    have w0 : Wd pt0 S0 H0 S0 H0 [] := Wd.start e0
    have hm0 : Mir.run (m__law_common p_a p_b) s0 = some (r, s') := hm0
    unfold m__law_common at hm0
    have sc := sc__law_common
    refine ⟨_, pss_cons (ps_while PassesOwn.never (pt_cmpR op_gt (pv 1) (pe_int) (nomark _)) (pss_cons (ps_par (i := 0) (j := 1) rfl sc.nd rfl rfl (by decide) rfl rfl (pa_cons (pv 1) (pa_cons (pe_op op_mod (pe_callTy call_int1 (by rfl) T.n_int (by decide +kernel) (pa_cons (pv 0) pa_nil)) (pv 1)) (pa_nil))) (by rfl)) (pss_nil))) (pss_cons (ps_ret (pv 0)) (pss_nil)), ?_⟩
    refine q_wh (p := pt0) (fun st1 σ S' H' s' => σ = [some (.int st1.1), some (.int st1.2)] ∧ Wd pt0 S0 H0 S' H' [] ∧ PotAt pt0 s' S' H' ∧ Ex S0 S') ⟨rfl, w0, p0, Ex.rf⟩ hm0 ?_ ?_ ?_ ?_
    · rintro st1 _ S7 H8 s9 ⟨rfl, w4, p5, eb6⟩
      exact ⟨p5, w4.i, (t_Test (e_gt (e_var (R := rI) rfl rfl) e_cI))⟩
    · rintro st1 _ S13 H14 s15 S16 H17 s18 ⟨rfl, w10, p11, eb12⟩ g19 p20
      exact ⟨rfl, w10.go g19, p20, eb12.tr g19.s⟩
    · rintro st1 _ S24 H25 s26 st1_ s2_ D_ ⟨rfl, w21, p22, eb23⟩ hm27 nx28
      refine par_go ?_
      refine x_ev w21 p22 (e_var (R := rI) rfl rfl) hm27 ?_
      intro a32 va40 S33 H34 s35 w36 p37 g39 ra41 hm38
      cases (show va40 = .int a32 from ra41)
      have eb23 := eb23.tr g39.s
      refine x_ev w36 p37 (e_mod (c_int (e_var (R := rI) rfl rfl)) (e_var (R := rI) rfl rfl)) hm38 ?_
      intro b42 vb50 S43 H44 s45 w46 p47 g49 rb51 hm48
      cases (show vb50 = .int b42 from rb51)
      have eb23 := eb23.tr g49.s
      refine par_end [some (.int a32), some (.int b42)] rfl ?_
      cases run_of_pure hm48
      exact (nx28 _ _ _ ⟨rfl, w46, p47, eb23⟩).1
    · rintro st1 _ S55 H56 s57 ⟨rfl, w52, p53, eb54⟩ hm58
      refine q_ret w52 p53 (e_var (R := rI) rfl rfl) hm58 ?_
      intro r66 v67 S59 H60 s61 w62 p63 g65 rr68 hm64
      cases run_of_pure hm64
      exact fin _ ⟨S59, w62.g, p63, rr68⟩
end
abbrev t__law_made : Stmt := top 50
theorem sc__law_made : FnScope ["above", "below", "by"] ["above", "below"] (defScope t__law_made) := ⟨rfl, rfl, rfl, by decide +kernel, rfl, by decide +kernel, by decide +kernel⟩
@[irreducible] noncomputable def m__law_made (p_above : Int) (p_below : Int) : Option (Int × Int) :=
(if (!decide (p_above = (0 : Int))) = true then Mir.lft (m__law_common (if p_above < 0 then -p_above else p_above) p_below) >>= fun r22 => pure r22 else pure p_below) >>= fun c21 => bnd c21 fun by1 =>
Mir.lft (grd (Dv by1)) >>= fun _ => Mir.lft (grd (Dv by1)) >>= fun _ => bnd ((p_above / by1), (p_below / by1)) fun r18 => pure r18
noncomputable abbrev fm__law_made : (Int × Int) → Option (Int × Int) := fun (a0, a1) => m__law_made a0 a1
abbrev sp__law_made (K : PySem.W.Frag) : Sp := spV F0 fm__law_made (fun _ => (aCons rI (aOne rI))) (rT K (aCons rI (aOne rI)))
section
variable {P : Program} {w : World} {K : PySem.W.Frag} {mg : Str → Option Value} {base : Heap}
theorem g__law_made (T : Tx mg base) (D0 : Dk P w K mg base "_law_common" "_law_common" t__law_common 1 ["a", "b"] (sp__law_common K)) {f : Addr} {fd : FuncData} (F : Fun K "_law_made" "_law_made" t__law_made f fd) : FnG P w K mg base CX0 2 f fd ["above", "below"] (sp__law_made K) := by
  obtain ⟨f0, fd0, F0, m0, G0, b0⟩ := D0
  refine okG0 F sc__law_made (fun vs H Q E h => ?_) (fun cdv A outer s0_ H0 vs Q E hr gd h => ?_)
  · obtain ⟨_, _, _, _, _, _, _, _, ⟨_, _, rfl, _, ⟨_, rfl, _⟩⟩, _⟩ := h
    rfl
  · obtain ⟨_, a, S0, s0, r, s', e0, p0, ⟨_, _, rfl, rfl, ⟨_, rfl, rfl⟩⟩, hm0, fin0⟩ := h
    obtain ⟨p_above, p_below⟩ := a
    have fin : ∀ v {H' : Hp}, (∃ S', Gm (pt0).M S0 H0 S' H' ∧ PotAt pt0 s' S' H' ∧ (rT K (aCons rI (aOne rI))) r v S') → Q v H' := fun v {H'} ⟨S', h1, h2, h3⟩ => fin0 v S' H' h1 h2 h3
    have w0 : Wd pt0 S0 H0 S0 H0 [] := Wd.start e0
    have hm0 : Mir.run (m__law_made p_above p_below) s0 = some (r, s') := hm0
    unfold m__law_made at hm0
    have sc := sc__law_made
    refine ⟨_, pss_cons (ps_set (i := 2) sc.nd rfl (by first | exact Or.inl rfl | exact Or.inr rfl) (pe_ifExp (pt_cmpR op_ne (pv 0) (pe_int) (nomark _)) (pe_cG G0 (hr.mono (by decide)) gd rfl m0 F0.kp b0 pass0 (pa_cons (pe_callB call_abs (by rfl) T.n_abs (by decide +kernel) (pa_cons (pv 0) pa_nil)) (pa_cons (pv 1) (pa_nil)))) (pv 1))) (pss_cons (ps_ret (pe_tup (pa_cons (pe_op op_fdivW (pv 0) (pv 2)) (pa_cons (pe_op op_fdivW (pv 1) (pv 2)) (pa_nil))))) (pss_nil)), ?_⟩
    refine q_set (fun v => [some (.int p_above), some (.int p_below), some v]) (fun _ => rfl) w0 p0 (e_if (R := rI) (t_Test (e_ne (e_var (R := rI) rfl rfl) e_cI)) (Ev.eta (e_call (E := E0) (fm := fm__law_common) (R := rI) (a_cons (c_abs (e_var (R := rI) rfl rfl)) (a_one (e_var (R := rI) rfl rfl))))) (e_var (R := rI) rfl rfl)) hm0 ?_
    intro by1 vby9 S2 H3 s4 w5 p6 g8 rby10 hm7
    cases (show vby9 = .int by1 from rby10)
    refine q_ret w5 p6 (e_tup (K := K) (a_cons (e_fdiv (e_var (R := rI) rfl rfl) (e_var (R := rI) rfl rfl)) (a_one (e_fdiv (e_var (R := rI) rfl rfl) (e_var (R := rI) rfl rfl)))) (arN_cons arN_one) (by decide)) hm7 ?_
    intro r18 v19 S11 H12 s13 w14 p15 g17 rr20 hm16
    cases run_of_pure hm16
    exact fin _ ⟨S11, w14.g, p15, rr20⟩
end
abbrev t__law_order : Stmt := top 51
theorem sc__law_order : FnScope ["a", "n", "own", "k"] ["a", "n"] (defScope t__law_order) := ⟨rfl, rfl, rfl, by decide +kernel, rfl, by decide +kernel, by decide +kernel⟩
@[irreducible] noncomputable def m__law_order (p_a : Int) (p_n : Int) : Option Int :=
Mir.lft (grd (0 < p_n)) >>= fun _ => bnd (p_a % p_n) fun own1 =>
bnd (1 : Int) fun k11 =>
(whS many (fun (st21 : Int × Int) k => Mir.lft (grd (0 < p_n)) >>= fun _ => k (!decide (st21.1 = ((1 : Int) % p_n)))) (fun (st21 : Int × Int) =>
Mir.lft (grd (Sm st21.1 ∧ Sm p_a)) >>= fun _ => Mir.lft (grd (0 < p_n)) >>= fun _ => bnd ((st21.1 * p_a) % p_n) fun own52 =>
bnd (st21.2 + (1 : Int)) fun k62 =>
pure (own52, k62)) (own1, k11)) >>= fun (st21 : Int × Int) =>
bnd st21.2 fun r86 => pure r86
noncomputable abbrev fm__law_order : (Int × Int) → Option Int := fun (a0, a1) => m__law_order a0 a1
abbrev sp__law_order (K : PySem.W.Frag) : Sp := spV F0 fm__law_order (fun _ => (aCons rI (aOne rI))) rI
section
variable {P : Program} {w : World} {K : PySem.W.Frag} {mg : Str → Option Value} {base : Heap}
theorem g__law_order (T : Tx mg base)  {f : Addr} {fd : FuncData} (F : Fun K "_law_order" "_law_order" t__law_order f fd) : FnG P w K mg base CX0 1 f fd ["a", "n"] (sp__law_order K) := by
  refine okG0 F sc__law_order (fun vs H Q E h => ?_) (fun cdv A outer s0_ H0 vs Q E hr gd h => ?_)
  · obtain ⟨_, _, _, _, _, _, _, _, ⟨_, _, rfl, _, ⟨_, rfl, _⟩⟩, _⟩ := h
    rfl
  · obtain ⟨_, a, S0, s0, r, s', e0, p0, ⟨_, _, rfl, rfl, ⟨_, rfl, rfl⟩⟩, hm0, fin0⟩ := h
    obtain ⟨p_a, p_n⟩ := a
    have fin : ∀ v {H' : Hp}, (∃ S', Gm (pt0).M S0 H0 S' H' ∧ PotAt pt0 s' S' H' ∧ rI r v S') → Q v H' := fun v {H'} ⟨S', h1, h2, h3⟩ => fin0 v S' H' h1 h2 h3
    have w0 : Wd pt0 S0 H0 S0 H0 [] := Wd.start e0
    have hm0 : Mir.run (m__law_order p_a p_n) s0 = some (r, s') := hm0
    unfold m__law_order at hm0
    have sc := sc__law_order
    refine ⟨_, pss_cons (ps_par (i := 2) (j := 3) rfl sc.nd rfl rfl (by decide) rfl rfl (pa_cons (pe_op op_mod (pe_callTy call_int1 (by rfl) T.n_int (by decide +kernel) (pa_cons (pv 0) pa_nil)) (pv 1)) (pa_cons (pe_int) (pa_nil))) (by rfl)) (pss_cons (ps_while PassesOwn.never (pt_cmpR op_ne (pv 2) (pe_op op_mod (pe_callTy call_int1 (by rfl) T.n_int (by decide +kernel) (pa_cons (pe_int) pa_nil)) (pv 1)) (nomark _)) (pss_cons (ps_par (i := 2) (j := 3) rfl sc.nd rfl rfl (by decide) rfl rfl (pa_cons (pe_op op_mod (pe_callTy call_int1 (by rfl) T.n_int (by decide +kernel) (pa_cons (pe_op op_mulX (pv 2) (pv 0)) pa_nil)) (pv 1)) (pa_cons (pe_op op_add (pv 3) (pe_int)) (pa_nil))) (by rfl)) (pss_nil))) (pss_cons (ps_ret (pv 3)) (pss_nil))), ?_⟩
    refine par_go ?_
    refine x_ev w0 p0 (e_mod (c_int (e_var (R := rI) rfl rfl)) (e_var (R := rI) rfl rfl)) hm0 ?_
    intro own1 vown9 S2 H3 s4 w5 p6 g8 rown10 hm7
    cases (show vown9 = .int own1 from rown10)
    refine x_ev w5 p6 e_cI hm7 ?_
    intro k11 vk19 S12 H13 s14 w15 p16 g18 rk20 hm17
    cases (show vk19 = .int k11 from rk20)
    refine par_end [some (.int p_a), some (.int p_n), some (.int own1), some (.int k11)] rfl ?_
    refine q_wh (p := pt0) (fun st21 σ S' H' s' => σ = [some (.int p_a), some (.int p_n), some (.int st21.1), some (.int st21.2)] ∧ Wd pt0 S0 H0 S' H' [] ∧ PotAt pt0 s' S' H' ∧ Ex S12 S') ⟨rfl, w15, p16, Ex.rf⟩ hm17 ?_ ?_ ?_ ?_
    · rintro st21 _ S27 H28 s29 ⟨rfl, w24, p25, eb26⟩
      exact ⟨p25, w24.i, (t_Test (e_ne (e_var (R := rI) rfl rfl) (e_mod (c_int e_cI) (e_var (R := rI) rfl rfl))))⟩
    · rintro st21 _ S33 H34 s35 S36 H37 s38 ⟨rfl, w30, p31, eb32⟩ g39 p40
      exact ⟨rfl, w30.go g39, p40, eb32.tr g39.s⟩
    · rintro st21 _ S44 H45 s46 st21_ s2_ D_ ⟨rfl, w41, p42, eb43⟩ hm47 nx48
      refine par_go ?_
      refine x_ev w41 p42 (e_mod (c_int (e_mul (e_var (R := rI) rfl rfl) (e_var (R := rI) rfl rfl))) (e_var (R := rI) rfl rfl)) hm47 ?_
      intro own52 vown60 S53 H54 s55 w56 p57 g59 rown61 hm58
      cases (show vown60 = .int own52 from rown61)
      have eb43 := eb43.tr g59.s
      refine x_ev w56 p57 (e_add (e_var (R := rI) rfl rfl) e_cI) hm58 ?_
      intro k62 vk70 S63 H64 s65 w66 p67 g69 rk71 hm68
      cases (show vk70 = .int k62 from rk71)
      have eb43 := eb43.tr g69.s
      refine par_end [some (.int p_a), some (.int p_n), some (.int own52), some (.int k62)] rfl ?_
      cases run_of_pure hm68
      exact (nx48 _ _ _ ⟨rfl, w66, p67, eb43⟩).1
    · rintro st21 _ S75 H76 s77 ⟨rfl, w72, p73, eb74⟩ hm78
      refine q_ret w72 p73 (e_var (R := rI) rfl rfl) hm78 ?_
      intro r86 v87 S79 H80 s81 w82 p83 g85 rr88 hm84
      cases run_of_pure hm84
      exact fin _ ⟨S79, w82.g, p83, rr88⟩
end
abbrev t__law_are_figures_right : Stmt := top 52
theorem sc__law_are_figures_right : FnScope ["pot", "long", "above", "turn", "told", "row", "n", "base", "m", "t", "power", "many", "left", "figures", "ahead", "again", "due"] ["pot"] (defScope t__law_are_figures_right) := ⟨rfl, rfl, rfl, by decide +kernel, rfl, by decide +kernel, by decide +kernel⟩
@[irreducible] noncomputable def m__law_are_figures_right  : PM PotT Bool :=
Mir.lft (grd (List.length ([(30 : Int), (200 : Int)] : List Int) ≤ 16000000)) >>= fun _ => m__law_one ([(30 : Int), (200 : Int)] : List Int) >>= fun r501 => m__law_of r501 >>= fun r500 => bnd ((1 : Int) + r500) fun n1 =>
m__law_of (35 : Int) >>= fun r499 => bnd ((2 : Int) + r499) fun base11 =>
bnd n1 fun m21 =>
bnd (0 : Int) fun t31 =>
bnd (1 : Int) fun power41 =>
(whS many (fun (st51 : Int) k => Mir.lft (m__law_common st51 base11) >>= fun r498 => k (decide ((1 : Int) < r498))) (fun (st51 : Int) =>
Mir.lft (m__law_common st51 base11) >>= fun r92 => Mir.lft (grd (Dv r92)) >>= fun _ => bnd (st51 / r92) fun m82 =>
pure m82) m21) >>= fun (st51 : Int) =>
(whS many (fun (st100 : Int × Int) k => Mir.lft (grd (Sm st100.2 ∧ Sm st51)) >>= fun _ => Mir.lft (grd (0 < n1)) >>= fun _ => k (!decide (((st100.2 * st51) % n1) = (0 : Int)))) (fun (st100 : Int × Int) =>
Mir.lft (grd (Sm st100.2 ∧ Sm base11)) >>= fun _ => bnd (st100.2 * base11) fun power131 =>
bnd (st100.1 + (1 : Int)) fun t141 =>
pure (t141, power131)) (t31, power41)) >>= fun (st100 : Int × Int) =>
(if (decide (st51 = (1 : Int))) = true then pure (0 : Int) else Mir.lft (m__law_order base11 st51) >>= fun r491 => pure r491) >>= fun c490 => bnd c490 fun long158 =>
Mir.lft (m_figure_round n1 base11) >>= fun r487 => Mir.lft (m_figure_round n1 base11) >>= fun r488 => Mir.lft (grd (List.length ([r487, r488] : List (Int × Int)) ≤ 16000000)) >>= fun _ => bnd (PyData.list (List.map (fun a => (PyData.tuple [(PyData.int a.1), (PyData.int a.2)])) ([r487, r488] : List (Int × Int)))) fun d486 => Mir.lft (grd (OkD d486)) >>= fun _ => Mir.lft (grd (List.length ([(st100.1, long158)] : List (Int × Int)) ≤ 16000000)) >>= fun _ => Mir.lft (grd (RpB (List.length ([(st100.1, long158)] : List (Int × Int))) (2 : Int))) >>= fun _ => bnd (PyData.list (List.map (fun a => (PyData.tuple [(PyData.int a.1), (PyData.int a.2)])) (List.replicate (Int.toNat (2 : Int)) ([(st100.1, long158)] : List (Int × Int))).flatten)) fun d489 => Mir.lft (grd (OkD d489)) >>= fun _ => Mir.lft (grP (d486 = d489)) >>= fun _ => if false = true then
(bnd false fun r182 => pure r182)
else
(m__law_of n1 >>= fun r485 => bnd r485 fun above192 =>
m__law_of (30 : Int) >>= fun r484 => bnd r484 fun many202 =>
bnd above192 fun left212 =>
Mir.lft (grd (List.length ([] : List Int) ≤ 16000000)) >>= fun _ => bnd ([] : List Int) fun figures222 =>
Mir.lft (grd (RgB many202)) >>= fun _ => (lpS (rng 0 many202) (fun (x235 : Int) (st233 : Int × (List Int)) =>
Mir.lft (grd (Sm st233.1 ∧ Sm base11)) >>= fun _ => Mir.lft (grd (Dv n1)) >>= fun _ => Mir.lft (grd (List.length st233.2 < 16000000)) >>= fun _ => bnd (st233.2 ++ [((st233.1 * base11) / n1)]) fun figures283 =>
Mir.lft (grd (Sm st233.1 ∧ Sm base11)) >>= fun _ => Mir.lft (grd (0 < n1)) >>= fun _ => bnd ((st233.1 * base11) % n1) fun left293 =>
pure (left293, figures283)) (left212, figures222)) >>= fun (st233 : Int × (List Int)) =>
Mir.lft (m_figures_of above192 n1 base11 many202) >>= fun r482 => Mir.lft (m_figures_of above192 n1 base11 many202) >>= fun r483 => Mir.lft (grd (List.length ([r482, r483] : List (List Int)) ≤ 16000000)) >>= fun _ => bnd ([r482, r483] : List (List Int)) fun told314 =>
bnd (PyData.list (List.map (fun a => (PyData.tuple (List.map PyData.int a))) told314)) fun d480 => Mir.lft (grd (OkD d480)) >>= fun _ => Mir.lft (grd (List.length ([st233.2] : List (List Int)) ≤ 16000000)) >>= fun _ => Mir.lft (grd (RpB (List.length ([st233.2] : List (List Int))) (2 : Int))) >>= fun _ => bnd (PyData.list (List.map (fun a => (PyData.tuple (List.map PyData.int a))) (List.replicate (Int.toNat (2 : Int)) ([st233.2] : List (List Int))).flatten)) fun d481 => Mir.lft (grd (OkD d481)) >>= fun _ => Mir.lft (grP (d480 = d481)) >>= fun _ => if false = true then
(bnd false fun r338 => pure r338)
else
(Mir.lft (m_round_figures_of above192 n1 base11) >>= fun r479 => bnd r479 fun t348 =>
Mir.lft (m__law_common above192 n1) >>= fun r478 => if ((decide (r478 = (1 : Int))) && (!decide (((List.length t348.1 : Int), (List.length t348.2 : Int)) = (st100.1, long158)))) = true then
(bnd false fun r375 => pure r375)
else
(Mir.lft (grd (List.length ([] : List Int) ≤ 16000000)) >>= fun _ => Mir.lft (grd (RpB (List.length (if (!decide (t348.2 = ([] : List Int))) = true then t348.2 else [(0 : Int)])) (60 : Int))) >>= fun _ => Mir.lft (grd (List.length t348.1 + List.length (List.replicate (Int.toNat (60 : Int)) (if (!decide (t348.2 = ([] : List Int))) = true then t348.2 else [(0 : Int)])).flatten ≤ 16000000)) >>= fun _ => bnd (t348.1 ++ (List.replicate (Int.toNat (60 : Int)) (if (!decide (t348.2 = ([] : List Int))) = true then t348.2 else [(0 : Int)])).flatten) fun row385 =>
if (!decide ((cut row385 none (some many202)) = (cut st233.2 none (some (List.length row385 : Int))))) = true then
(bnd false fun r409 => pure r409)
else
(if ((decide ((List.length t348.1 : Int) ≤ (30 : Int))) && (decide ((List.length t348.2 : Int) ≤ (30 : Int)))) = true then
(Mir.lft (m__law_made above192 n1) >>= fun r460 => bnd r460 fun due426 =>
Mir.lft (m_fraction_by t348.1 t348.2 base11) >>= fun r458 => Mir.lft (m_fraction_by t348.1 t348.2 base11) >>= fun r459 => Mir.lft (grd (List.length ([r458, r459] : List (Int × Int)) ≤ 16000000)) >>= fun _ => bnd ([r458, r459] : List (Int × Int)) fun told436 =>
bnd (PyData.list (List.map (fun a => (PyData.tuple [(PyData.int a.1), (PyData.int a.2)])) told436)) fun d456 => Mir.lft (grd (OkD d456)) >>= fun _ => Mir.lft (grd (List.length ([due426, due426] : List (Int × Int)) ≤ 16000000)) >>= fun _ => bnd (PyData.list (List.map (fun a => (PyData.tuple [(PyData.int a.1), (PyData.int a.2)])) ([due426, due426] : List (Int × Int)))) fun d457 => Mir.lft (grd (OkD d457)) >>= fun _ => Mir.lft (grP (d456 = d457)) >>= fun _ => bnd true fun r453 => pure r453)
else
(bnd true fun r475 => pure r475)))))
noncomputable abbrev fm__law_are_figures_right : (Unit) → PM PotT Bool := fun a => m__law_are_figures_right
abbrev sp__law_are_figures_right (K : PySem.W.Frag) : Sp := spV (fun i => potPt i) fm__law_are_figures_right (fun i => (aOne (rP i))) rB
section
variable {P : Program} {w : World} {K : PySem.W.Frag} {mg : Str → Option Value} {base : Heap}
theorem g__law_are_figures_right (T : Tx mg base) (D0 : Dk P w K mg base "_law_of" "_law_of" t__law_of 1 ["pot", "many"] (sp__law_of K)) (D1 : Dk P w K mg base "_law_one" "_law_one" t__law_one 2 ["pot", "items"] (sp__law_one K)) (D2 : Dk P w K mg base "_law_common" "_law_common" t__law_common 1 ["a", "b"] (sp__law_common K)) (D3 : Dk P w K mg base "_law_order" "_law_order" t__law_order 1 ["a", "n"] (sp__law_order K)) (D4 : Dk P w K mg base "figure_round" "figure_round" t_figure_round 8 ["n", "base"] (sp_figure_round K)) (D5 : Dk P w K mg base "figures_of" "figures_of" t_figures_of 1 ["above", "n", "base", "many"] (sp_figures_of K)) (D6 : Dk P w K mg base "round_figures_of" "round_figures_of" t_round_figures_of 1 ["above", "n", "base"] (sp_round_figures_of K)) (D7 : Dk P w K mg base "_law_made" "_law_made" t__law_made 2 ["above", "below"] (sp__law_made K)) (D8 : Dk P w K mg base "fraction_by" "fraction_by" t_fraction_by 2 ["ahead", "round_figures", "base"] (sp_fraction_by K)) {f : Addr} {fd : FuncData} (F : Fun K "_law_are_figures_right" "_law_are_figures_right" t__law_are_figures_right f fd) : FnG P w K mg base CX0 9 f fd ["pot"] (sp__law_are_figures_right K) := by
  obtain ⟨f0, fd0, F0, m0, G0, b0⟩ := D0
  obtain ⟨f1, fd1, F1, m1, G1, b1⟩ := D1
  obtain ⟨f2, fd2, F2, m2, G2, b2⟩ := D2
  obtain ⟨f3, fd3, F3, m3, G3, b3⟩ := D3
  obtain ⟨f4, fd4, F4, m4, G4, b4⟩ := D4
  obtain ⟨f5, fd5, F5, m5, G5, b5⟩ := D5
  obtain ⟨f6, fd6, F6, m6, G6, b6⟩ := D6
  obtain ⟨f7, fd7, F7, m7, G7, b7⟩ := D7
  obtain ⟨f8, fd8, F8, m8, G8, b8⟩ := D8
  refine okG0 F sc__law_are_figures_right (fun vs H Q E h => ?_) (fun cdv A outer s0_ H0 vs Q E hr gd h => ?_)
  · obtain ⟨_, _, _, _, _, _, _, _, ⟨_, rfl, _⟩, _⟩ := h
    rfl
  · obtain ⟨i, p_pot, S0, s0, r, s', e0, p0, ⟨_, rfl, rfl⟩, hm0, fin0⟩ := h
    have fin : ∀ v {H' : Hp}, (∃ S', Gm ((potPt i)).M S0 H0 S' H' ∧ PotAt (potPt i) s' S' H' ∧ rB r v S') → Q v H' := fun v {H'} ⟨S', h1, h2, h3⟩ => fin0 v S' H' h1 h2 h3
    have w0 : Wd (potPt i) S0 H0 S0 H0 [] := Wd.start e0
    have hm0 : Mir.run (m__law_are_figures_right ) s0 = some (r, s') := hm0
    unfold m__law_are_figures_right at hm0
    have sc := sc__law_are_figures_right
    refine ⟨_, pss_cons (ps_par (i := 6) (j := 7) rfl sc.nd rfl rfl (by decide) rfl rfl (pa_cons (pe_op op_add (pe_int) (pe_cG G0 (hr.mono (by decide)) gd rfl m0 F0.kp b0 pass0 (pa_cons (pv 0) (pa_cons (pe_cG G1 (hr.mono (by decide)) gd rfl m1 F1.kp b1 pass0 (pa_cons (pv 0) (pa_cons (pe_lst (pa_cons (pe_int) (pa_cons (pe_int) (pa_nil)))) (pa_nil)))) (pa_nil))))) (pa_cons (pe_op op_add (pe_int) (pe_cG G0 (hr.mono (by decide)) gd rfl m0 F0.kp b0 pass0 (pa_cons (pv 0) (pa_cons (pe_int) (pa_nil))))) (pa_nil))) (by rfl)) (pss_cons (ps_par3 (i := 8) (j := 9) (l := 10) rfl sc.nd rfl rfl rfl (by decide) (by decide) (by decide) rfl rfl rfl (pa_cons (pv 6) (pa_cons (pe_int) (pa_cons (pe_int) (pa_nil)))) (by rfl)) (pss_cons (ps_while PassesOwn.never (pt_cmpR op_gt (pe_cG G2 (hr.mono (by decide)) gd rfl m2 F2.kp b2 pass0 (pa_cons (pv 8) (pa_cons (pv 7) (pa_nil)))) (pe_int) (nomark _)) (pss_cons (ps_set (i := 8) sc.nd rfl (by first | exact Or.inl rfl | exact Or.inr rfl) (pe_op op_fdivW (pv 8) (pe_cG G2 (hr.mono (by decide)) gd rfl m2 F2.kp b2 pass0 (pa_cons (pv 8) (pa_cons (pv 7) (pa_nil)))))) (pss_nil))) (pss_cons (ps_while PassesOwn.never (pt_cmpR op_ne (pe_op op_mod (pe_callTy call_int1 (by rfl) T.n_int (by decide +kernel) (pa_cons (pe_op op_mulX (pv 10) (pv 8)) pa_nil)) (pv 6)) (pe_int) (nomark _)) (pss_cons (ps_par (i := 10) (j := 9) rfl sc.nd rfl rfl (by decide) rfl rfl (pa_cons (pe_op op_mulX (pv 10) (pv 7)) (pa_cons (pe_op op_add (pv 9) (pe_int)) (pa_nil))) (by rfl)) (pss_nil))) (pss_cons (ps_set (i := 1) sc.nd rfl (by first | exact Or.inl rfl | exact Or.inr rfl) (pe_ifExp (pt_cmpR op_eq (pv 8) (pe_int) (nomark _)) (pe_int) (pe_cG G3 (hr.mono (by decide)) gd rfl m3 F3.kp b3 pass0 (pa_cons (pv 7) (pa_cons (pv 8) (pa_nil)))))) (pss_cons (ps_if (pt_cmpR op_ne (pe_callB (k_repr K hr gd T.nd) (by rfl) T.n_repr (by decide +kernel) (pa_cons (pe_lst (pa_cons (pe_cG G4 (hr.mono (by decide)) gd rfl m4 F4.kp b4 pass0 (pa_cons (pv 6) (pa_cons (pv 7) (pa_nil)))) (pa_cons (pe_cGK0 (ks := ["base", "n"]) (ix := [1, 0]) G4 (hr.mono (by decide)) gd rfl m4 F4.kp (Fun.kb F4 (ps := ["n", "base"]) (ks := ["base", "n"]) (n := 0) (ix := [1, 0]) fun _ _ _ _ _ _ us ws h1 h2 => match us, ws, h1, h2 with | [], [_, _], _, _ => rfl) pass0 (pk_cons (pv 7) (pk_cons (pv 6) (pk_nil)))) (pa_nil)))) pa_nil)) (pe_callB (k_repr K hr gd T.nd) (by rfl) T.n_repr (by decide +kernel) (pa_cons (pe_op op_rep (pe_lst (pa_cons (pe_tup (pa_cons (pv 9) (pa_cons (pv 1) (pa_nil)))) (pa_nil))) (pe_int)) pa_nil)) (nomark _)) (pss_cons (ps_ret (pe_bl)) (pss_nil)) (pss_nil)) (pss_cons (ps_set (i := 2) sc.nd rfl (by first | exact Or.inl rfl | exact Or.inr rfl) (pe_cG G0 (hr.mono (by decide)) gd rfl m0 F0.kp b0 pass0 (pa_cons (pv 0) (pa_cons (pv 6) (pa_nil))))) (pss_cons (ps_par3 (i := 11) (j := 12) (l := 13) rfl sc.nd rfl rfl rfl (by decide) (by decide) (by decide) rfl rfl rfl (pa_cons (pe_cG G0 (hr.mono (by decide)) gd rfl m0 F0.kp b0 pass0 (pa_cons (pv 0) (pa_cons (pe_int) (pa_nil)))) (pa_cons (pv 2) (pa_cons (pe_lst (pa_nil)) (pa_nil)))) (by rfl)) (pss_cons (ps_for PassesOwn.never rfl (pi_range1 rfl T.n_range (pa_cons (pv 11) pa_nil)) (pg_name (i := 3) sc.nd rfl (by first | exact Or.inl rfl | exact Or.inr rfl)) (pss_cons (ps_expr (pe_bm PySem.F.plainAttrs_list PySem.F.slot_list_append PySem.F.type_list_append mt_append (pv 13) (pa_cons (pe_op op_fdivW (pe_op op_mulX (pv 12) (pv 7)) (pv 6)) pa_nil))) (pss_cons (ps_set (i := 12) sc.nd rfl (by first | exact Or.inl rfl | exact Or.inr rfl) (pe_op op_mod (pe_callTy call_int1 (by rfl) T.n_int (by decide +kernel) (pa_cons (pe_op op_mulX (pv 12) (pv 7)) pa_nil)) (pv 6))) (pss_nil)))) (pss_cons (ps_set (i := 4) sc.nd rfl (by first | exact Or.inl rfl | exact Or.inr rfl) (pe_lst (pa_cons (pe_cG G5 (hr.mono (by decide)) gd rfl m5 F5.kp b5 pass0 (pa_cons (pv 2) (pa_cons (pv 6) (pa_cons (pv 7) (pa_cons (pv 11) (pa_nil)))))) (pa_cons (pe_cGK0 (ks := ["many", "base", "n", "above"]) (ix := [3, 2, 1, 0]) G5 (hr.mono (by decide)) gd rfl m5 F5.kp (Fun.kb F5 (ps := ["above", "n", "base", "many"]) (ks := ["many", "base", "n", "above"]) (n := 0) (ix := [3, 2, 1, 0]) fun _ _ _ _ _ _ us ws h1 h2 => match us, ws, h1, h2 with | [], [_, _, _, _], _, _ => rfl) pass0 (pk_cons (pv 11) (pk_cons (pv 7) (pk_cons (pv 6) (pk_cons (pv 2) (pk_nil)))))) (pa_nil))))) (pss_cons (ps_if (pt_cmpR op_ne (pe_callB (k_repr K hr gd T.nd) (by rfl) T.n_repr (by decide +kernel) (pa_cons (pv 4) pa_nil)) (pe_callB (k_repr K hr gd T.nd) (by rfl) T.n_repr (by decide +kernel) (pa_cons (pe_op op_rep (pe_lst (pa_cons (pe_callTy (k_tupOf K) (by rfl) T.n_tuple (by decide +kernel) (pa_cons (pv 13) pa_nil)) (pa_nil))) (pe_int)) pa_nil)) (nomark _)) (pss_cons (ps_ret (pe_bl)) (pss_nil)) (pss_nil)) (pss_cons (ps_asg (pe_cG G6 (hr.mono (by decide)) gd rfl m6 F6.kp b6 pass0 (pa_cons (pv 2) (pa_cons (pv 6) (pa_cons (pv 7) (pa_nil))))) (k_gt K (pgs_cons (pg_name (i := 14) sc.nd rfl (by first | exact Or.inl rfl | exact Or.inr rfl)) (pgs_cons (pg_name (i := 15) sc.nd rfl (by first | exact Or.inl rfl | exact Or.inr rfl)) (pgs_nil))))) (pss_cons (ps_if (PW.pt (pw_and (pt_cmpR op_eq (pe_cG G2 (hr.mono (by decide)) gd rfl m2 F2.kp b2 pass0 (pa_cons (pv 2) (pa_cons (pv 6) (pa_nil)))) (pe_int) (nomark _)) (pw_and1 (pt_cmpR (k_neD K hr) (pe_tup (pa_cons (pe_callB (k_len K) (by rfl) T.n_len (by decide +kernel) (pa_cons (pv 14) pa_nil)) (pa_cons (pe_callB (k_len K) (by rfl) T.n_len (by decide +kernel) (pa_cons (pv 15) pa_nil)) (pa_nil)))) (pe_tup (pa_cons (pv 9) (pa_cons (pv 1) (pa_nil)))) (nomark _))))) (pss_cons (ps_ret (pe_bl)) (pss_nil)) (pss_nil)) (pss_cons (ps_set (i := 5) sc.nd rfl (by first | exact Or.inl rfl | exact Or.inr rfl) (pe_op op_cat (pe_callTy (k_listOf K) (by rfl) T.n_list (by decide +kernel) (pa_cons (pv 14) pa_nil)) (pe_op op_rep (pe_callTy (k_listOf K) (by rfl) T.n_list (by decide +kernel) (pa_cons (pe_ifExp (pt_cmpR (k_neD K hr) (pv 15) (pe_tup (pa_nil)) (nomark _)) (pv 15) (pe_tup (pa_cons (pe_int) (pa_nil)))) pa_nil)) (pe_int)))) (pss_cons (ps_if (pt_cmpR (k_neD K hr) (pe_slice (k_sll K) (pv 5) (po_none) (po_some (pv 11))) (pe_slice (k_sll K) (pv 13) (po_none) (po_some (pe_callB (k_len K) (by rfl) T.n_len (by decide +kernel) (pa_cons (pv 5) pa_nil)))) (nomark _)) (pss_cons (ps_ret (pe_bl)) (pss_nil)) (pss_nil)) (pss_cons (ps_if (PW.pt (pw_and (pt_cmpR op_le (pe_callB (k_len K) (by rfl) T.n_len (by decide +kernel) (pa_cons (pv 14) pa_nil)) (pe_int) (nomark _)) (pw_and1 (pt_cmpR op_le (pe_callB (k_len K) (by rfl) T.n_len (by decide +kernel) (pa_cons (pv 15) pa_nil)) (pe_int) (nomark _))))) (pss_cons (ps_set (i := 16) sc.nd rfl (by first | exact Or.inl rfl | exact Or.inr rfl) (pe_cG G7 (hr.mono (by decide)) gd rfl m7 F7.kp b7 pass0 (pa_cons (pv 2) (pa_cons (pv 6) (pa_nil))))) (pss_cons (ps_set (i := 4) sc.nd rfl (by first | exact Or.inl rfl | exact Or.inr rfl) (pe_lst (pa_cons (pe_cG G8 (hr.mono (by decide)) gd rfl m8 F8.kp b8 pass0 (pa_cons (pv 14) (pa_cons (pv 15) (pa_cons (pv 7) (pa_nil))))) (pa_cons (pe_cGK0 (ks := ["base", "round_figures", "ahead"]) (ix := [2, 1, 0]) G8 (hr.mono (by decide)) gd rfl m8 F8.kp (Fun.kb F8 (ps := ["ahead", "round_figures", "base"]) (ks := ["base", "round_figures", "ahead"]) (n := 0) (ix := [2, 1, 0]) fun _ _ _ _ _ _ us ws h1 h2 => match us, ws, h1, h2 with | [], [_, _, _], _, _ => rfl) pass0 (pk_cons (pv 7) (pk_cons (pv 15) (pk_cons (pv 14) (pk_nil))))) (pa_nil))))) (pss_cons (ps_ret (pe_cmpR op_eq (pe_callB (k_repr K hr gd T.nd) (by rfl) T.n_repr (by decide +kernel) (pa_cons (pv 4) pa_nil)) (pe_callB (k_repr K hr gd T.nd) (by rfl) T.n_repr (by decide +kernel) (pa_cons (pe_lst (pa_cons (pv 16) (pa_cons (pv 16) (pa_nil)))) pa_nil)) (nomark _))) (pss_nil)))) (pss_nil)) (pss_cons (ps_ret (pe_bl)) (pss_nil))))))))))))))))), ?_⟩
    refine par_go ?_
    refine x_ev w0 p0 (e_add e_cI (Ev.eta (e_callP (F := fun i => potPt i) (i := i) (A := fun i => (aCons (rP i) (aOne rI))) (E := E0) (fm := fm__law_of) (R := rI) (a_cons (e_var (R := rP i) (a := ()) rfl rfl) (a_one (Ev.eta (e_callP (F := fun i => potPt i) (i := i) (A := fun i => (aCons (rP i) (aOne (rL (aAll rI))))) (E := E0) (fm := fm__law_one) (R := rI) (a_cons (e_var (R := rP i) (a := ()) rfl rfl) (a_one (EvL.frz (l_lstL (a_consL e_cI (a_consL e_cI (a_nilL (R := rI))))))))))))))) hm0 ?_
    intro n1 vn9 S2 H3 s4 w5 p6 g8 rn10 hm7
    cases (show vn9 = .int n1 from rn10)
    refine x_ev w5 p6 (e_add e_cI (Ev.eta (e_callP (F := fun i => potPt i) (i := i) (A := fun i => (aCons (rP i) (aOne rI))) (E := E0) (fm := fm__law_of) (R := rI) (a_cons (e_var (R := rP i) (a := ()) rfl rfl) (a_one e_cI))))) hm7 ?_
    intro base11 vbase19 S12 H13 s14 w15 p16 g18 rbase20 hm17
    cases (show vbase19 = .int base11 from rbase20)
    refine par_end [some (.ref i.a), none, none, none, none, none, some (.int n1), some (.int base11), none, none, none, none, none, none, none, none, none] rfl ?_
    refine par3_go ?_
    refine x_ev w15 p16 (e_var (R := rI) rfl rfl) hm17 ?_
    intro m21 vm29 S22 H23 s24 w25 p26 g28 rm30 hm27
    cases (show vm29 = .int m21 from rm30)
    refine x_ev w25 p26 e_cI hm27 ?_
    intro t31 vt39 S32 H33 s34 w35 p36 g38 rt40 hm37
    cases (show vt39 = .int t31 from rt40)
    refine x_ev w35 p36 e_cI hm37 ?_
    intro power41 vpower49 S42 H43 s44 w45 p46 g48 rpower50 hm47
    cases (show vpower49 = .int power41 from rpower50)
    refine par3_end [some (.ref i.a), none, none, none, none, none, some (.int n1), some (.int base11), some (.int m21), some (.int t31), some (.int power41), none, none, none, none, none, none] rfl ?_
    refine q_wh (p := (potPt i)) (fun st51 σ S' H' s' => σ = [some (.ref i.a), none, none, none, none, none, some (.int n1), some (.int base11), some (.int st51), some (.int t31), some (.int power41), none, none, none, none, none, none] ∧ Wd (potPt i) S0 H0 S' H' [] ∧ PotAt (potPt i) s' S' H' ∧ Ex S42 S') ⟨rfl, w45, p46, Ex.rf⟩ hm47 ?_ ?_ ?_ ?_
    · rintro st51 _ S57 H58 s59 ⟨rfl, w54, p55, eb56⟩
      exact ⟨p55, w54.i, (t_Test (e_gt (Ev.eta (e_call (E := E0) (fm := fm__law_common) (R := rI) (a_cons (e_var (R := rI) rfl rfl) (a_one (e_var (R := rI) rfl rfl))))) e_cI))⟩
    · rintro st51 _ S63 H64 s65 S66 H67 s68 ⟨rfl, w60, p61, eb62⟩ g69 p70
      exact ⟨rfl, w60.go g69, p70, eb62.tr g69.s⟩
    · rintro st51 _ S74 H75 s76 st51_ s2_ D_ ⟨rfl, w71, p72, eb73⟩ hm77 nx78
      refine q_set (fun v => [some (.ref i.a), none, none, none, none, none, some (.int n1), some (.int base11), some v, some (.int t31), some (.int power41), none, none, none, none, none, none]) (fun _ => rfl) w71 p72 (e_fdiv (e_var (R := rI) rfl rfl) (Ev.eta (e_call (E := E0) (fm := fm__law_common) (R := rI) (a_cons (e_var (R := rI) rfl rfl) (a_one (e_var (R := rI) rfl rfl)))))) hm77 ?_
      intro m82 vm90 S83 H84 s85 w86 p87 g89 rm91 hm88
      cases (show vm90 = .int m82 from rm91)
      have eb73 := eb73.tr g89.s
      cases run_of_pure hm88
      exact (nx78 _ _ _ ⟨rfl, w86, p87, eb73⟩).1
    · rintro st51 _ S96 H97 s98 ⟨rfl, w93, p94, eb95⟩ hm99
      refine q_wh (p := (potPt i)) (fun st100 σ S' H' s' => σ = [some (.ref i.a), none, none, none, none, none, some (.int n1), some (.int base11), some (.int st51), some (.int st100.1), some (.int st100.2), none, none, none, none, none, none] ∧ Wd (potPt i) S0 H0 S' H' [] ∧ PotAt (potPt i) s' S' H' ∧ Ex S96 S') ⟨rfl, w93, p94, Ex.rf⟩ hm99 ?_ ?_ ?_ ?_
      · rintro st100 _ S106 H107 s108 ⟨rfl, w103, p104, eb105⟩
        exact ⟨p104, w103.i, (t_Test (e_ne (e_mod (c_int (e_mul (e_var (R := rI) rfl rfl) (e_var (R := rI) rfl rfl))) (e_var (R := rI) rfl rfl)) e_cI))⟩
      · rintro st100 _ S112 H113 s114 S115 H116 s117 ⟨rfl, w109, p110, eb111⟩ g118 p119
        exact ⟨rfl, w109.go g118, p119, eb111.tr g118.s⟩
      · rintro st100 _ S123 H124 s125 st100_ s2_ D_ ⟨rfl, w120, p121, eb122⟩ hm126 nx127
        refine par_go ?_
        refine x_ev w120 p121 (e_mul (e_var (R := rI) rfl rfl) (e_var (R := rI) rfl rfl)) hm126 ?_
        intro power131 vpower139 S132 H133 s134 w135 p136 g138 rpower140 hm137
        cases (show vpower139 = .int power131 from rpower140)
        have eb122 := eb122.tr g138.s
        refine x_ev w135 p136 (e_add (e_var (R := rI) rfl rfl) e_cI) hm137 ?_
        intro t141 vt149 S142 H143 s144 w145 p146 g148 rt150 hm147
        cases (show vt149 = .int t141 from rt150)
        have eb122 := eb122.tr g148.s
        refine par_end [some (.ref i.a), none, none, none, none, none, some (.int n1), some (.int base11), some (.int st51), some (.int t141), some (.int power131), none, none, none, none, none, none] rfl ?_
        cases run_of_pure hm147
        exact (nx127 _ _ _ ⟨rfl, w145, p146, eb122⟩).1
      · rintro st100 _ S154 H155 s156 ⟨rfl, w151, p152, eb153⟩ hm157
        refine q_set (fun v => [some (.ref i.a), some v, none, none, none, none, some (.int n1), some (.int base11), some (.int st51), some (.int st100.1), some (.int st100.2), none, none, none, none, none, none]) (fun _ => rfl) w151 p152 (e_if (R := rI) (t_Test (e_eq (e_var (R := rI) rfl rfl) e_cI)) e_cI (Ev.eta (e_call (E := E0) (fm := fm__law_order) (R := rI) (a_cons (e_var (R := rI) rfl rfl) (a_one (e_var (R := rI) rfl rfl)))))) hm157 ?_
        intro long158 vlong166 S159 H160 s161 w162 p163 g165 rlong167 hm164
        cases (show vlong166 = .int long158 from rlong167)
        refine q_if w162 p163 (t_Test (e_neW (c_repr (EvL.frz (l_lstL (a_consL (Ev.eta (e_call (E := E0) (fm := fm_figure_round) (R := (rT K (aCons rI (aOne rI)))) (a_cons (e_var (R := rI) rfl rfl) (a_one (e_var (R := rI) rfl rfl))))) (a_consL (e_callK (E := E0) (n := 0) (m' := 2) (ix := [1, 0]) (fm := fm_figure_round) (A := (aCons rI (aOne rI))) (A1 := aNil) (A2 := (aCons rI (aOne rI))) (R := (rT K (aCons rI (aOne rI)))) (fun a b => (b.2, b.1)) a_nil (a_cons (e_var (R := rI) rfl rfl) (a_one (e_var (R := rI) rfl rfl))) (fun a b vs zs S h1 h2 => by obtain rfl := h1; obtain ⟨_, _, rfl, y0, ⟨_, rfl, y1⟩⟩ := h2; exact ⟨rfl, rfl, ⟨_, _, rfl, y1, ⟨_, rfl, y0⟩⟩⟩)) (a_nilL (R := (rT K (aCons rI (aOne rI))))))))) (d_L (ds_all (d_T (ds_cons d_I (ds_one d_I)))))) (c_repr (EvL.frz (l_rep (EvL.rd (l_lstL (a_consL (e_tup (K := K) (a_cons (e_var (R := rI) rfl rfl) (a_one (e_var (R := rI) rfl rfl))) (arN_cons arN_one) (by decide)) (a_nilL (R := (rT K (aCons rI (aOne rI)))))))) e_cI)) (d_L (ds_all (d_T (ds_cons d_I (ds_one d_I)))))))) hm164 ?_ ?_
        · intro S168 H169 s170 w171 p172 g173 hm174
          refine q_ret w171 p172 e_cB hm174 ?_
          intro r182 v183 S175 H176 s177 w178 p179 g181 rr184 hm180
          cases run_of_pure hm180
          exact fin _ ⟨S175, w178.g, p179, rr184⟩
        · intro S185 H186 s187 w188 p189 g190 hm191
          refine nx_done ?_
          refine q_set (fun v => [some (.ref i.a), some (.int long158), some v, none, none, none, some (.int n1), some (.int base11), some (.int st51), some (.int st100.1), some (.int st100.2), none, none, none, none, none, none]) (fun _ => rfl) w188 p189 (Ev.eta (e_callP (F := fun i => potPt i) (i := i) (A := fun i => (aCons (rP i) (aOne rI))) (E := E0) (fm := fm__law_of) (R := rI) (a_cons (e_var (R := rP i) (a := ()) rfl rfl) (a_one (e_var (R := rI) rfl rfl))))) hm191 ?_
          intro above192 vabove200 S193 H194 s195 w196 p197 g199 rabove201 hm198
          cases (show vabove200 = .int above192 from rabove201)
          refine par3_go ?_
          refine x_ev w196 p197 (Ev.eta (e_callP (F := fun i => potPt i) (i := i) (A := fun i => (aCons (rP i) (aOne rI))) (E := E0) (fm := fm__law_of) (R := rI) (a_cons (e_var (R := rP i) (a := ()) rfl rfl) (a_one e_cI)))) hm198 ?_
          intro many202 vmany210 S203 H204 s205 w206 p207 g209 rmany211 hm208
          cases (show vmany210 = .int many202 from rmany211)
          refine x_ev w206 p207 (e_var (R := rI) rfl rfl) hm208 ?_
          intro left212 vleft220 S213 H214 s215 w216 p217 g219 rleft221 hm218
          cases (show vleft220 = .int left212 from rleft221)
          refine x_evL w216 p217 (l_lstL (a_nilL (R := rI))) hm218 ?_
          intro figures222 q230 vs231 S223 H224 s225 w226 p227 g229 rfigures232 hm228
          have rfigures232 : All rI _ _ _ := rfigures232
          refine par3_end [some (.ref i.a), some (.int long158), some (.int above192), none, none, none, some (.int n1), some (.int base11), some (.int st51), some (.int st100.1), some (.int st100.2), some (.int many202), some (.int left212), some (.ref q230), none, none, none] rfl ?_
          refine q_for (p := (potPt i)) w226 p227 (i_R1 (e_var (R := rI) rfl rfl)) (g_nm (R := rI)) hm228 (fun Sb234 st233 σ S' H' s' => Ex Sb234 S' ∧ (∃ (xturn_ : Option V) (qfigures_ : Addr) (usfigures_ : List V), σ = [some (.ref i.a), some (.int long158), some (.int above192), xturn_, none, none, some (.int n1), some (.int base11), some (.int st51), some (.int st100.1), some (.int st100.2), some (.int many202), some (.int st233.1), some (.ref qfigures_), none, none, none] ∧ Wd (potPt i) S0 H0 S' H' [(qfigures_, .lst usfigures_)] ∧ PotAt (potPt i) s' S' H' ∧ Ex S223 S' ∧ All rI S' st233.2 usfigures_)) ?_ ?_ ?_ ?_ ?_
          · intro S236 H237 s238 w239 p240 g241
            have rfigures232 := All.mo g241.s rfigures232
            exact ⟨Ex.rf, ⟨_, _, _, rfl, w239, p240, g241.s, rfigures232⟩⟩
          · rintro Sb234 st233 _ S249 H250 s251 ⟨ex252, ⟨xturn242, qfigures243, usfigures244, rfl, w246, p247, eb248, rfigures245⟩⟩
            exact ⟨ex252, w246.i, p247, ownOk0⟩
          · rintro Sb234 st233 _ S260 H261 s262 S263 H264 ⟨ex266, ⟨xturn253, qfigures254, usfigures255, rfl, w257, p258, eb259, rfigures256⟩⟩ g265
            exact ⟨ex266.tr g265.s, _, _, _, rfl, w257.go (Gm.up g265), PotAt.go p258 g265, eb259.tr g265.s, All.mo g265.s rfigures256⟩
          · rintro Sb234 x235 st233 _ σ282 S274 H275 s276 st233_ s2_ D_ ⟨ex281, ⟨xturn267, qfigures268, usfigures269, rfl, w271, p272, eb273, rfigures270⟩⟩ hp hm277 nx278
            obtain ⟨_, rfl, rfl⟩ := hp
            refine q_app (j := 0) w271 p272 rfl rfl rfigures270 (e_fdiv (e_mul (e_var (R := rI) rfl rfl) (e_var (R := rI) rfl rfl)) (e_var (R := rI) rfl rfl)) hm277 ?_
            intro figures283 vs284 S286 H287 s288 w289 p290 e292 rfigures285 hm291
            have eb273 := eb273.tr e292
            have ex281 := ex281.tr e292
            refine q_set (fun v => [some (.ref i.a), some (.int long158), some (.int above192), some (.int x235), none, none, some (.int n1), some (.int base11), some (.int st51), some (.int st100.1), some (.int st100.2), some (.int many202), some v, some (.ref qfigures268), none, none, none]) (fun _ => rfl) w289 p290 (e_mod (c_int (e_mul (e_var (R := rI) rfl rfl) (e_var (R := rI) rfl rfl))) (e_var (R := rI) rfl rfl)) hm291 ?_
            intro left293 vleft301 S294 H295 s296 w297 p298 g300 rleft302 hm299
            cases (show vleft301 = .int left293 from rleft302)
            have rfigures285 := All.mo g300.s rfigures285
            have eb273 := eb273.tr g300.s
            have ex281 := ex281.tr g300.s
            cases run_of_pure hm299
            exact (nx278 _ _ _ ⟨ex281, ⟨_, _, _, rfl, w297, p298, eb273, rfigures285⟩⟩).1
          · rintro Sb234 st233 _ S310 H311 s312 ⟨_, ⟨xturn303, qfigures304, usfigures305, rfl, w307, p308, eb309, rfigures306⟩⟩ hm313
            refine q_set (fun v => [some (.ref i.a), some (.int long158), some (.int above192), xturn303, some v, none, some (.int n1), some (.int base11), some (.int st51), some (.int st100.1), some (.int st100.2), some (.int many202), some (.int st233.1), some (.ref qfigures304), none, none, none]) (fun _ => rfl) w307 p308 (EvL.frz (l_lstL (a_consL (Ev.eta (e_call (E := E0) (fm := fm_figures_of) (R := (rT K (aAll rI))) (a_cons (e_var (R := rI) rfl rfl) (a_cons (e_var (R := rI) rfl rfl) (a_cons (e_var (R := rI) rfl rfl) (a_one (e_var (R := rI) rfl rfl))))))) (a_consL (e_callK (E := E0) (n := 0) (m' := 4) (ix := [3, 2, 1, 0]) (fm := fm_figures_of) (A := (aCons rI (aCons rI (aCons rI (aOne rI))))) (A1 := aNil) (A2 := (aCons rI (aCons rI (aCons rI (aOne rI))))) (R := (rT K (aAll rI))) (fun a b => (b.2.2.2, b.2.2.1, b.2.1, b.1)) a_nil (a_cons (e_var (R := rI) rfl rfl) (a_cons (e_var (R := rI) rfl rfl) (a_cons (e_var (R := rI) rfl rfl) (a_one (e_var (R := rI) rfl rfl))))) (fun a b vs zs S h1 h2 => by obtain rfl := h1; obtain ⟨_, _, rfl, y0, ⟨_, _, rfl, y1, ⟨_, _, rfl, y2, ⟨_, rfl, y3⟩⟩⟩⟩ := h2; exact ⟨rfl, rfl, ⟨_, _, rfl, y3, ⟨_, _, rfl, y2, ⟨_, _, rfl, y1, ⟨_, rfl, y0⟩⟩⟩⟩⟩)) (a_nilL (R := (rT K (aAll rI)))))))) hm313 ?_
            intro told314 vtold322 S315 H316 s317 w318 p319 g321 rtold323 hm320
            have rfigures306 := All.mo g321.s rfigures306
            refine q_if w318 p319 (t_Test (e_neW (c_repr (e_var rfl rtold323) (d_L (ds_all (d_T (ds_all d_I))))) (c_repr (EvL.frz (l_rep (EvL.rd (l_lstL (a_consL (c_tup (K := K) (w_own (A := (aAll rI)) (j := 0) w318 rfl rfl rfigures306)) (a_nilL (R := (rT K (aAll rI))))))) e_cI)) (d_L (ds_all (d_T (ds_all d_I))))))) hm320 ?_ ?_
            · intro S324 H325 s326 w327 p328 g329 hm330
              have rfigures306 := All.mo g329.s rfigures306
              have rtold323 := Mo.mo g329.s rtold323
              refine q_ret w327 p328 e_cB hm330 ?_
              intro r338 v339 S331 H332 s333 w334 p335 g337 rr340 hm336
              cases run_of_pure hm336
              exact fin _ ⟨S331, w334.g, p335, rr340⟩
            · intro S341 H342 s343 w344 p345 g346 hm347
              have rfigures306 := All.mo g346.s rfigures306
              have rtold323 := Mo.mo g346.s rtold323
              refine nx_done ?_
              refine q_unp w344 p345 (Ev.eta (e_call (E := E0) (fm := fm_round_figures_of) (R := (rT K (aCons (rT K (aAll rI)) (aOne (rT K (aAll rI)))))) (a_cons (e_var (R := rI) rfl rfl) (a_cons (e_var (R := rI) rfl rfl) (a_one (e_var (R := rI) rfl rfl)))))) (g_tp (gq_cons (g_nm (R := (rT K (aAll rI)))) (gq_one (g_nm (R := (rT K (aAll rI))))))) hm347 ?_
              intro t348 σ356 S349 H350 s351 w352 p353 g355 hp hm354
              have rfigures306 := All.mo g355.s rfigures306
              have rtold323 := Mo.mo g355.s rtold323
              obtain ⟨_, ⟨vahead357, rfl, rahead358⟩, ⟨vagain359, rfl, ragain360⟩⟩ := hp
              refine q_if w352 p353 (t_andT (t_Test (e_eq (Ev.eta (e_call (E := E0) (fm := fm__law_common) (R := rI) (a_cons (e_var (R := rI) rfl rfl) (a_one (e_var (R := rI) rfl rfl))))) e_cI)) (t_Test (e_neQ (q_T (qs_cons q_I (qs_one q_I))) (by decide) (Ev.Q (e_tup (K := K) (a_cons (c_lenT (e_var rfl rahead358)) (a_one (c_lenT (e_var rfl ragain360)))) (arN_cons arN_one) (by decide)) (d_T (ds_cons d_I (ds_one d_I)))) (Ev.Q (e_tup (K := K) (a_cons (e_var (R := rI) rfl rfl) (a_one (e_var (R := rI) rfl rfl))) (arN_cons arN_one) (by decide)) (d_T (ds_cons d_I (ds_one d_I))))))) hm354 ?_ ?_
              · intro S361 H362 s363 w364 p365 g366 hm367
                have rfigures306 := All.mo g366.s rfigures306
                have rtold323 := Mo.mo g366.s rtold323
                have rahead358 := Mo.mo g366.s rahead358
                have ragain360 := Mo.mo g366.s ragain360
                refine q_ret w364 p365 e_cB hm367 ?_
                intro r375 v376 S368 H369 s370 w371 p372 g374 rr377 hm373
                cases run_of_pure hm373
                exact fin _ ⟨S368, w371.g, p372, rr377⟩
              · intro S378 H379 s380 w381 p382 g383 hm384
                have rfigures306 := All.mo g383.s rfigures306
                have rtold323 := Mo.mo g383.s rtold323
                have rahead358 := Mo.mo g383.s rahead358
                have ragain360 := Mo.mo g383.s ragain360
                refine nx_done ?_
                refine q_set (fun v => [some (.ref i.a), some (.int long158), some (.int above192), xturn303, some vtold322, some v, some (.int n1), some (.int base11), some (.int st51), some (.int st100.1), some (.int st100.2), some (.int many202), some (.int st233.1), some (.ref qfigures304), some vahead357, some vagain359, none]) (fun _ => rfl) w381 p382 (EvL.frz (l_cat (EvL.rd (l_listT (e_var rfl rahead358))) (EvL.rd (l_rep (EvL.rd (l_listT (e_ifT (R := (rT K (aAll rI))) (t_Test (e_neQ (q_T (qs_all q_I)) (by decide) (Ev.Q (e_var rfl ragain360) (d_T (ds_all d_I))) (Ev.Q (e_tupL (K := K) (a_nilL (R := rI))) (d_T (ds_all d_I))))) (e_var rfl ragain360) (Ev.tl1 (e_tup (K := K) (a_one e_cI) arN_one (by decide)))))) e_cI)))) hm384 ?_
                intro row385 vrow393 S386 H387 s388 w389 p390 g392 rrow394 hm391
                have rfigures306 := All.mo g392.s rfigures306
                have rtold323 := Mo.mo g392.s rtold323
                have rahead358 := Mo.mo g392.s rahead358
                have ragain360 := Mo.mo g392.s ragain360
                refine q_if w389 p390 (t_Test (e_neQ (q_L (qs_all q_I)) (by decide) (EvR.Q (EvL.rd (l_cut (Ev.rd (e_var rfl rrow394)) o_no (o_some (e_var (R := rI) rfl rfl)))) (ds_all d_I)) (EvR.Q (EvL.rd (l_cut (w_own (A := (aAll rI)) (j := 0) w389 rfl rfl rfigures306) o_no (o_some (c_lenL (Ev.rd (e_var rfl rrow394)))))) (ds_all d_I)))) hm391 ?_ ?_
                · intro S395 H396 s397 w398 p399 g400 hm401
                  have rfigures306 := All.mo g400.s rfigures306
                  have rtold323 := Mo.mo g400.s rtold323
                  have rahead358 := Mo.mo g400.s rahead358
                  have ragain360 := Mo.mo g400.s ragain360
                  have rrow394 := Mo.mo g400.s rrow394
                  refine q_ret w398 p399 e_cB hm401 ?_
                  intro r409 v410 S402 H403 s404 w405 p406 g408 rr411 hm407
                  cases run_of_pure hm407
                  exact fin _ ⟨S402, w405.g, p406, rr411⟩
                · intro S412 H413 s414 w415 p416 g417 hm418
                  have rfigures306 := All.mo g417.s rfigures306
                  have rtold323 := Mo.mo g417.s rtold323
                  have rahead358 := Mo.mo g417.s rahead358
                  have ragain360 := Mo.mo g417.s ragain360
                  have rrow394 := Mo.mo g417.s rrow394
                  refine nx_done ?_
                  refine q_if w415 p416 (t_andT (t_Test (e_le (c_lenT (e_var rfl rahead358)) e_cI)) (t_Test (e_le (c_lenT (e_var rfl ragain360)) e_cI))) hm418 ?_ ?_
                  · intro S419 H420 s421 w422 p423 g424 hm425
                    have rfigures306 := All.mo g424.s rfigures306
                    have rtold323 := Mo.mo g424.s rtold323
                    have rahead358 := Mo.mo g424.s rahead358
                    have ragain360 := Mo.mo g424.s ragain360
                    have rrow394 := Mo.mo g424.s rrow394
                    refine q_set (fun v => [some (.ref i.a), some (.int long158), some (.int above192), xturn303, some vtold322, some vrow393, some (.int n1), some (.int base11), some (.int st51), some (.int st100.1), some (.int st100.2), some (.int many202), some (.int st233.1), some (.ref qfigures304), some vahead357, some vagain359, some v]) (fun _ => rfl) w422 p423 (Ev.eta (e_call (E := E0) (fm := fm__law_made) (R := (rT K (aCons rI (aOne rI)))) (a_cons (e_var (R := rI) rfl rfl) (a_one (e_var (R := rI) rfl rfl))))) hm425 ?_
                    intro due426 vdue434 S427 H428 s429 w430 p431 g433 rdue435 hm432
                    have rfigures306 := All.mo g433.s rfigures306
                    have rtold323 := Mo.mo g433.s rtold323
                    have rahead358 := Mo.mo g433.s rahead358
                    have ragain360 := Mo.mo g433.s ragain360
                    have rrow394 := Mo.mo g433.s rrow394
                    refine q_set (fun v => [some (.ref i.a), some (.int long158), some (.int above192), xturn303, some v, some vrow393, some (.int n1), some (.int base11), some (.int st51), some (.int st100.1), some (.int st100.2), some (.int many202), some (.int st233.1), some (.ref qfigures304), some vahead357, some vagain359, some vdue434]) (fun _ => rfl) w430 p431 (EvL.frz (l_lstL (a_consL (Ev.eta (e_call (E := E0) (fm := fm_fraction_by) (R := (rT K (aCons rI (aOne rI)))) (a_cons (e_var rfl rahead358) (a_cons (e_var rfl ragain360) (a_one (e_var (R := rI) rfl rfl)))))) (a_consL (e_callK (E := E0) (n := 0) (m' := 3) (ix := [2, 1, 0]) (fm := fm_fraction_by) (A := (aCons (rT K (aAll rI)) (aCons (rT K (aAll rI)) (aOne rI)))) (A1 := aNil) (A2 := (aCons rI (aCons (rT K (aAll rI)) (aOne (rT K (aAll rI)))))) (R := (rT K (aCons rI (aOne rI)))) (fun a b => (b.2.2, b.2.1, b.1)) a_nil (a_cons (e_var (R := rI) rfl rfl) (a_cons (e_var rfl ragain360) (a_one (e_var rfl rahead358)))) (fun a b vs zs S h1 h2 => by obtain rfl := h1; obtain ⟨_, _, rfl, y0, ⟨_, _, rfl, y1, ⟨_, rfl, y2⟩⟩⟩ := h2; exact ⟨rfl, rfl, ⟨_, _, rfl, y2, ⟨_, _, rfl, y1, ⟨_, rfl, y0⟩⟩⟩⟩)) (a_nilL (R := (rT K (aCons rI (aOne rI))))))))) hm432 ?_
                    intro told436 vtold444 S437 H438 s439 w440 p441 g443 rtold445 hm442
                    have rfigures306 := All.mo g443.s rfigures306
                    have rahead358 := Mo.mo g443.s rahead358
                    have ragain360 := Mo.mo g443.s ragain360
                    have rrow394 := Mo.mo g443.s rrow394
                    have rdue435 := Mo.mo g443.s rdue435
                    refine q_ret w440 p441 (e_eqW (c_repr (e_var rfl rtold445) (d_L (ds_all (d_T (ds_cons d_I (ds_one d_I)))))) (c_repr (EvL.frz (l_lstL (a_consL (e_var rfl rdue435) (a_consL (e_var rfl rdue435) (a_nilL (R := (rT K (aCons rI (aOne rI))))))))) (d_L (ds_all (d_T (ds_cons d_I (ds_one d_I))))))) hm442 ?_
                    intro r453 v454 S446 H447 s448 w449 p450 g452 rr455 hm451
                    cases run_of_pure hm451
                    exact fin _ ⟨S446, w449.g, p450, rr455⟩
                  · intro S461 H462 s463 w464 p465 g466 hm467
                    have rfigures306 := All.mo g466.s rfigures306
                    have rtold323 := Mo.mo g466.s rtold323
                    have rahead358 := Mo.mo g466.s rahead358
                    have ragain360 := Mo.mo g466.s ragain360
                    have rrow394 := Mo.mo g466.s rrow394
                    refine nx_done ?_
                    refine q_ret w464 p465 e_cB hm467 ?_
                    intro r475 v476 S468 H469 s470 w471 p472 g474 rr477 hm473
                    cases run_of_pure hm473
                    exact fin _ ⟨S468, w471.g, p472, rr477⟩
end
abbrev t__law_pot : Stmt := top 46
theorem sc__law_pot : FnScope ["script", "cell", "cells", "mixed"] ["script"] (defScope t__law_pot) := ⟨rfl, rfl, rfl, by decide +kernel, rfl, by decide +kernel, by decide +kernel⟩
@[irreducible] noncomputable def m__law_pot (p_script : List Int) : Option PotT :=
Mir.lft (grd (List.length (cut p_script none (some (63 : Int))) ≤ 16000000)) >>= fun _ => cmp (cut p_script none (some (63 : Int))) (fun x1 => Mir.lft (grd (Sm (2 : Int) ∧ Sm (if x1 < 0 then -x1 else x1))) >>= fun _ => pure (some (((2 : Int) * (if x1 < 0 then -x1 else x1)) + (if (decide (x1 < (0 : Int))) = true then (1 : Int) else 0)))) >>= fun l96 => bnd l96 fun cells4 =>
Mir.lft (grd (Sm (73 : Int) ∧ Sm (List.length p_script : Int))) >>= fun _ => bnd ((19592 : Int) + ((73 : Int) * (List.length p_script : Int))) fun mixed14 =>
(lpS cells4 (fun (x26 : Int) (st24 : Int) =>
Mir.lft (grd (Sm st24 ∧ Sm (69069 : Int))) >>= fun _ => Mir.lft (grd (0 < (4294967291 : Int))) >>= fun _ => bnd ((((st24 * (69069 : Int)) + x26) + (11 : Int)) % (4294967291 : Int)) fun mixed65 =>
pure mixed65) mixed14) >>= fun (st24 : Int) =>
Mir.lft (grd (List.length cells4 ≤ 16000000)) >>= fun _ => cmp cells4 (fun x83 => Mir.lft (grd (Pw (10 : Int) (12 : Int))) >>= fun _ => if (decide (((10 : Int) ^ Int.toNat (12 : Int)) < x83)) = true then pure (some x83) else pure none) >>= fun l95 => bnd (PotT.mk l95 st24 0) fun r93 => pure r93
abbrev sp__law_pot (K : PySem.W.Frag) : Sp := spP potHd m__law_pot K
section
variable {P : Program} {w : World} {K : PySem.W.Frag} {mg : Str → Option Value} {base : Heap}
theorem g__law_pot (T : Tx mg base)  {f : Addr} {fd : FuncData} (F : Fun K "_law_pot" "_law_pot" t__law_pot f fd) : FnG P w K mg base CX0 1 f fd ["script"] (sp__law_pot K) := by
  refine okG0 F sc__law_pot (fun vs H Q E h => ?_) (fun cdv A outer s0_ H0 vs Q E hr gd h => ?_)
  · obtain ⟨_, _, _, _, ⟨_, rfl, _⟩, _⟩ := h
    rfl
  · obtain ⟨p_script, S0, sP, e0, ⟨v_script, rfl, r_script⟩, hf, fin0⟩ := h
    have p0 : PotAt pt0 () S0 H0 := pot0
    have hm0 : Mir.run (m__law_pot p_script) () = some (sP, ()) := by show (m__law_pot p_script).map _ = _; rw [hf]; rfl
    have w0 : Wd pt0 S0 H0 S0 H0 [] := Wd.start e0
    unfold m__law_pot at hm0
    have sc := sc__law_pot
    refine ⟨_, pss_cons (ps_par (i := 2) (j := 3) rfl sc.nd rfl rfl (by decide) rfl rfl (pa_cons (pe_lc (own := [("cell", 1)]) (g := (gName 1)) (tt := tYes) rfl sc.nd (k_pil K (pe_slice (k_sll K) (pv 0) (po_none) (po_some (pe_int)))) (blkOk_by (N := ["script", "cell", "cells", "mixed"]) (sc := defScope t__law_pot) (by decide +kernel)) (fun _ _ _ _ _ => pg_name (i := 1) sc.nd rfl (by first | exact Or.inl rfl | exact Or.inr rfl)) (fun _ _ _ _ _ => pts_nil) (fun _ _ _ _ _ => pe_op op_add (pe_op op_mulX (pe_int) (pe_callB call_abs (by rfl) T.n_abs (by decide +kernel) (pa_cons (pv 1) pa_nil))) (pe_callTy call_int1 (by rfl) T.n_int (by decide +kernel) (pa_cons (pe_cmpR op_lt (pv 1) (pe_int) (nomark _)) pa_nil)))) (pa_cons (pe_op op_add (pe_int) (pe_op op_mulX (pe_int) (pe_callB (k_len K) (by rfl) T.n_len (by decide +kernel) (pa_cons (pv 0) pa_nil)))) (pa_nil))) (by rfl)) (pss_cons (ps_for PassesOwn.never rfl (k_pil K (pv 2)) (pg_name (i := 1) sc.nd rfl (by first | exact Or.inl rfl | exact Or.inr rfl)) (pss_cons (ps_set (i := 3) sc.nd rfl (by first | exact Or.inl rfl | exact Or.inr rfl) (pe_op op_mod (pe_op op_add (pe_op op_add (pe_op op_mulX (pv 3) (pe_int)) (pv 1)) (pe_int)) (pe_int))) (pss_nil))) (pss_cons (ps_ret (pe_lst (pa_cons (pe_lc (own := [("cell", 1)]) (g := (gName 1)) rfl sc.nd (k_pil K (pv 2)) (blkOk_by (N := ["script", "cell", "cells", "mixed"]) (sc := defScope t__law_pot) (by decide +kernel)) (fun _ _ _ _ _ => pg_name (i := 1) sc.nd rfl (by first | exact Or.inl rfl | exact Or.inr rfl)) (fun _ _ _ _ _ => pts_one (pt_cmpR op_gt (pv 1) (pe_op op_pow (pe_int) (pe_int)) (nomark _))) (fun _ _ _ _ _ => pv 1)) (pa_cons (pv 3) (pa_cons pe_int pa_nil))))) (pss_nil))), ?_⟩
    refine par_go ?_
    refine x_ev w0 p0 (EvL.frz (l_lc1 (γ := Int) (vs := [1]) (me := fun x1 k => Mir.lft (grd (Sm (2 : Int) ∧ Sm (if x1 < 0 then -x1 else x1))) >>= fun _ => k (((2 : Int) * (if x1 < 0 then -x1 else x1)) + (if (decide (x1 < (0 : Int))) = true then (1 : Int) else 0))) (R' := rI) (i_L (K := K) (EvL.frz (l_cutX (e_var rfl r_script) o_no (o_some e_cI)))) ownOk0 (g_nm (R := rI)) (fun x σ' S hp => by obtain ⟨_, rfl, _⟩ := hp; rfl) (fun x1 σ' S1 H1 g2 hp => by have w3 := w0.go g2; obtain ⟨_, rfl, rfl⟩ := hp; have r_script := Mo.mo g2.s r_script; exact (e_add (e_mul e_cI (c_abs (e_var (R := rI) rfl rfl))) (c_intB (e_lt (e_var (R := rI) rfl rfl) e_cI)))) pm_nm)) hm0 ?_
    intro cells4 vcells12 S5 H6 s7 w8 p9 g11 rcells13 hm10
    have r_script := Mo.mo g11.s r_script
    refine x_ev w8 p9 (e_add e_cI (e_mul e_cI (c_lenX (e_var rfl r_script)))) hm10 ?_
    intro mixed14 vmixed22 S15 H16 s17 w18 p19 g21 rmixed23 hm20
    cases (show vmixed22 = .int mixed14 from rmixed23)
    have r_script := Mo.mo g21.s r_script
    have rcells13 := Mo.mo g21.s rcells13
    refine par_end [some v_script, none, some vcells12, some (.int mixed14)] rfl ?_
    refine q_for (p := pt0) w18 p19 (i_L (K := K) (e_var rfl rcells13)) (g_nm (R := rI)) hm20 (fun Sb25 st24 σ S' H' s' => Ex Sb25 S' ∧ (∃ (xcell_ : Option V), σ = [some v_script, xcell_, some vcells12, some (.int st24)] ∧ Wd pt0 S0 H0 S' H' [] ∧ PotAt pt0 s' S' H' ∧ Ex S15 S')) ?_ ?_ ?_ ?_ ?_
    · intro S27 H28 s29 w30 p31 g32
      have r_script := Mo.mo g32.s r_script
      have rcells13 := Mo.mo g32.s rcells13
      exact ⟨Ex.rf, ⟨_, rfl, w30, p31, g32.s⟩⟩
    · rintro Sb25 st24 _ S37 H38 s39 ⟨ex40, ⟨xcell33, rfl, w34, p35, eb36⟩⟩
      exact ⟨ex40, w34.i, p35, ownOk0⟩
    · rintro Sb25 st24 _ S45 H46 s47 S48 H49 ⟨ex51, ⟨xcell41, rfl, w42, p43, eb44⟩⟩ g50
      exact ⟨ex51.tr g50.s, _, rfl, w42.go (Gm.up g50), PotAt.go p43 g50, eb44.tr g50.s⟩
    · rintro Sb25 x26 st24 _ σ64 S56 H57 s58 st24_ s2_ D_ ⟨ex63, ⟨xcell52, rfl, w53, p54, eb55⟩⟩ hp hm59 nx60
      obtain ⟨_, rfl, rfl⟩ := hp
      have r_script := Mo.mo eb55 r_script
      have rcells13 := Mo.mo eb55 rcells13
      refine q_set (fun v => [some v_script, some (.int x26), some vcells12, some v]) (fun _ => rfl) w53 p54 (e_mod (e_add (e_add (e_mul (e_var (R := rI) rfl rfl) e_cI) (e_var (R := rI) rfl rfl)) e_cI) e_cI) hm59 ?_
      intro mixed65 vmixed73 S66 H67 s68 w69 p70 g72 rmixed74 hm71
      cases (show vmixed73 = .int mixed65 from rmixed74)
      have r_script := Mo.mo g72.s r_script
      have rcells13 := Mo.mo g72.s rcells13
      have eb55 := eb55.tr g72.s
      have ex63 := ex63.tr g72.s
      cases run_of_pure hm71
      exact (nx60 _ _ _ ⟨ex63, ⟨_, rfl, w69, p70, eb55⟩⟩).1
    · rintro Sb25 st24 _ S79 H80 s81 ⟨_, ⟨xcell75, rfl, w76, p77, eb78⟩⟩ hm82
      have r_script := Mo.mo eb78 r_script
      have rcells13 := Mo.mo eb78 rcells13
      refine q_retP w76 (pot_lst (l_lc (γ := Int) (vs := [1]) (mt := fun x83 k => Mir.lft (grd (Pw (10 : Int) (12 : Int))) >>= fun _ => k (decide (((10 : Int) ^ Int.toNat (12 : Int)) < x83))) (me := fun x83 k => k x83) (R' := rI) (i_L (K := K) (e_var rfl rcells13)) ownOk0 (g_nm (R := rI)) (fun x σ' S hp => by obtain ⟨_, rfl, _⟩ := hp; rfl) (fun x83 σ' S1 H1 g84 hp => by have w85 := w76.go g84; obtain ⟨_, rfl, rfl⟩ := hp; have r_script := Mo.mo g84.s r_script; have rcells13 := Mo.mo g84.s rcells13; exact (t_Test (e_gt (e_var (R := rI) rfl rfl) (e_pow e_cI e_cI)))) (fun x83 σ' S1 H1 g84 hp => by have w85 := w76.go g84; obtain ⟨_, rfl, rfl⟩ := hp; have r_script := Mo.mo g84.s r_script; have rcells13 := Mo.mo g84.s rcells13; exact (e_var (R := rI) rfl rfl)) pm_nm) (e_var (R := rI) rfl rfl)) hm82 ?_
      intro r93 i94 S86 H87 g88 p89 n90 n91 hm92
      cases run_of_pure hm92
      exact fin0 i94 S86 H87 g88 p89 n90 n91
end
abbrev t_law : Stmt := top 53
theorem sc_law : FnScope ["script", "pot", "n", "rests", "orders", "due", "at", "a", "roots", "told", "paper", "root", "b", "own", "k"] ["script"] (defScope t_law) := ⟨rfl, rfl, rfl, by decide +kernel, rfl, by decide +kernel, by decide +kernel⟩
@[irreducible] noncomputable def m_law : PM PotT Bool :=
Mir.lft (grd (List.length ([(20 : Int), (130 : Int)] : List Int) ≤ 16000000)) >>= fun _ => m__law_one ([(20 : Int), (130 : Int)] : List Int) >>= fun r491 => m__law_of r491 >>= fun r490 => bnd ((1 : Int) + r490) fun n1 =>
Mir.lft (grd (List.length ([n1, n1, (27 : Int), (50 : Int), (64 : Int), (81 : Int), (98 : Int), (121 : Int)] : List Int) ≤ 16000000)) >>= fun _ => m__law_one ([n1, n1, (27 : Int), (50 : Int), (64 : Int), (81 : Int), (98 : Int), (121 : Int)] : List Int) >>= fun r489 => bnd r489 fun n11 =>
Mir.lft (grd (RgB (1 : Int) ∧ RgB (n11 + (1 : Int)))) >>= fun _ => Mir.lft (grd (List.length (rng (1 : Int) (n11 + (1 : Int))) ≤ 16000000)) >>= fun _ => cmp (rng (1 : Int) (n11 + (1 : Int))) (fun x21 => Mir.lft (m__law_common x21 n11) >>= fun r24 => if (decide (r24 = (1 : Int))) = true then pure (some x21) else pure none) >>= fun l488 => bnd l488 fun rests26 =>
Mir.lft (grd (List.length rests26 ≤ 16000000)) >>= fun _ => cmp rests26 (fun x36 => Mir.lft (m__law_order x36 n11) >>= fun r40 => pure (some r40)) >>= fun l487 => bnd l487 fun orders41 =>
Mir.lft (m_rests_number n11) >>= fun r483 => Mir.lft (m_coprime_count n11) >>= fun r484 => Mir.lft (m_rests_number n11) >>= fun r485 => Mir.lft (grd (List.length ([r483, r484, r485] : List Int) ≤ 16000000)) >>= fun _ => bnd (PyData.list (List.map PyData.int ([r483, r484, r485] : List Int))) fun d482 => Mir.lft (grd (OkD d482)) >>= fun _ => Mir.lft (grd (List.length ([(List.length rests26 : Int)] : List Int) ≤ 16000000)) >>= fun _ => Mir.lft (grd (RpB (List.length ([(List.length rests26 : Int)] : List Int)) (3 : Int))) >>= fun _ => bnd (PyData.list (List.map PyData.int (List.replicate (Int.toNat (3 : Int)) ([(List.length rests26 : Int)] : List Int)).flatten)) fun d486 => Mir.lft (grd (OkD d486)) >>= fun _ => Mir.lft (grP (d482 = d486)) >>= fun _ => if false = true then
(bnd false fun r65 => pure r65)
else
(Mir.lft (m_coprimes_of n11) >>= fun r481 => if (!decide (r481 = rests26)) = true then
(bnd false fun r89 => pure r89)
else
(Mir.lft (grd (List.length orders41 < 4000 ∧ List.length (dd orders41) < 64)) >>= fun _ => Mir.lft (grd (List.length (srt (dd orders41)) ≤ 16000000)) >>= fun _ => bnd (List.map (fun x99 => (x99, (List.count x99 orders41 : Int))) (srt (dd orders41))) fun due102 =>
Mir.lft (m_order_counts n11) >>= fun r476 => Mir.lft (m_order_counts n11) >>= fun r477 => Mir.lft (grd (List.length ([r476, r477] : List (List (Int × Int))) ≤ 16000000)) >>= fun _ => bnd (PyData.list (List.map (fun a => (PyData.tuple (List.map (fun a => (PyData.tuple [(PyData.int a.1), (PyData.int a.2)])) a))) ([r476, r477] : List (List (Int × Int))))) fun d475 => Mir.lft (grd (OkD d475)) >>= fun _ => Mir.lft (grd (List.length ([due102, due102] : List (List (Int × Int))) ≤ 16000000)) >>= fun _ => bnd (PyData.list (List.map (fun a => (PyData.tuple (List.map (fun a => (PyData.tuple [(PyData.int a.1), (PyData.int a.2)])) a))) ([due102, due102] : List (List (Int × Int))))) fun d478 => Mir.lft (grd (OkD d478)) >>= fun _ => Mir.lft (grP (d475 = d478)) >>= fun _ => (if false = true then pure true else Mir.lft (m_greatest_order n11) >>= fun r479 => Mir.lft (List.max? orders41) >>= fun y480 => pure (!decide (r479 = y480))) >>= fun b474 => if b474 = true then
(bnd false fun r126 => pure r126)
else
(m__law_of (List.length rests26 : Int) >>= fun r473 => bnd r473 fun at136 =>
Mir.lft (L2.atI rests26 at136) >>= fun y471 => m__law_of (9 : Int) >>= fun r472 => Mir.lft (grd (Sm n11 ∧ Sm r472)) >>= fun _ => bnd (y471 + (n11 * r472)) fun a146 =>
Mir.lft (m_power_order a146 n11) >>= fun r467 => Mir.lft (m_power_order a146 n11) >>= fun r468 => Mir.lft (grd (List.length ([r467, r468] : List Int) ≤ 16000000)) >>= fun _ => bnd (PyData.list (List.map PyData.int ([r467, r468] : List Int))) fun d466 => Mir.lft (grd (OkD d466)) >>= fun _ => Mir.lft (L2.atI orders41 at136) >>= fun y470 => Mir.lft (grd (List.length ([y470] : List Int) ≤ 16000000)) >>= fun _ => Mir.lft (grd (RpB (List.length ([y470] : List Int)) (2 : Int))) >>= fun _ => bnd (PyData.list (List.map PyData.int (List.replicate (Int.toNat (2 : Int)) ([y470] : List Int)).flatten)) fun d469 => Mir.lft (grd (OkD d469)) >>= fun _ => Mir.lft (grP (d466 = d469)) >>= fun _ => if false = true then
(bnd false fun r170 => pure r170)
else
(Mir.lft (grd (List.length (List.zip rests26 orders41) ≤ 16000000)) >>= fun _ => bnd (List.map (fun x180 => x180.1) (List.filter (fun x180 => (decide (x180.2 = (List.length rests26 : Int)))) (List.zip rests26 orders41))) fun roots183 =>
Mir.lft (m_has_root n11) >>= fun r462 => Mir.lft (m_roots_number n11) >>= fun r463 => Mir.lft (m_has_root n11) >>= fun r464 => Mir.lft (m_roots_number n11) >>= fun r465 => bnd (r462, r463, r464, r465) fun told193 =>
bnd (PyData.list [(PyData.bool told193.1), (PyData.int told193.2.1), (PyData.bool told193.2.2.1), (PyData.int told193.2.2.2)]) fun d460 => Mir.lft (grd (OkD d460)) >>= fun _ => Mir.lft (grd (List.length ([] : List Int) ≤ 16000000)) >>= fun _ => Mir.lft (grd (List.length ([((Sum.inl (!decide (roots183 = ([] : List Int)))) : (Bool ⊕ Int)), ((Sum.inr (List.length roots183 : Int)) : (Bool ⊕ Int))] : List (Bool ⊕ Int)) ≤ 16000000)) >>= fun _ => Mir.lft (grd (RpB (List.length ([((Sum.inl (!decide (roots183 = ([] : List Int)))) : (Bool ⊕ Int)), ((Sum.inr (List.length roots183 : Int)) : (Bool ⊕ Int))] : List (Bool ⊕ Int))) (2 : Int))) >>= fun _ => bnd (PyData.list (List.map (fun a => (dU PyData.bool PyData.int a)) (List.replicate (Int.toNat (2 : Int)) ([((Sum.inl (!decide (roots183 = ([] : List Int)))) : (Bool ⊕ Int)), ((Sum.inr (List.length roots183 : Int)) : (Bool ⊕ Int))] : List (Bool ⊕ Int))).flatten)) fun d461 => Mir.lft (grd (OkD d461)) >>= fun _ => Mir.lft (grP (d460 = d461)) >>= fun _ => if false = true then
(bnd false fun r217 => pure r217)
else
(Mir.lft (m_root_paper n11) >>= fun r459 => bnd r459 fun paper227 =>
Mir.lft (grd (List.length ([] : List Int) ≤ 16000000)) >>= fun _ => (if (!decide ((decide ((paper227.1) = ("root" : Str))) = (!decide (roots183 = ([] : List Int))))) = true then pure true else Mir.lft (m_root_paper_error n11 paper227) >>= fun r458 => pure (!Option.isNone r458)) >>= fun b457 => if b457 = true then
(bnd false fun r251 => pure r251)
else
(Mir.lft (grd (List.length ([] : List Int) ≤ 16000000)) >>= fun _ => if (!decide (roots183 = ([] : List Int))) = true then
(Mir.lft (m_least_root n11) >>= fun r435 => Mir.lft (L2.atI roots183 (0 : Int)) >>= fun y436 => (if (!decide (r435 = y436)) = true then pure true else Mir.lft (m_coprime_count n11) >>= fun r438 => Mir.lft (m_coprime_count r438) >>= fun r437 => pure (!decide ((List.length roots183 : Int) = r437))) >>= fun b434 => if b434 = true then
(bnd false fun r282 => pure r282)
else
(m__law_one roots183 >>= fun r433 => bnd r433 fun root292 =>
m__law_one rests26 >>= fun r432 => bnd r432 fun b302 =>
Mir.lft (grd (0 < n11)) >>= fun _ => bnd ((1 : Int) % n11) fun own312 =>
bnd (0 : Int) fun k322 =>
(whS many (fun (st332 : Int × Int) k => Mir.lft (grd (0 < n11)) >>= fun _ => k (!decide (st332.1 = (b302 % n11)))) (fun (st332 : Int × Int) =>
Mir.lft (grd (Sm st332.1 ∧ Sm root292)) >>= fun _ => Mir.lft (grd (0 < n11)) >>= fun _ => bnd ((st332.1 * root292) % n11) fun own363 =>
bnd (st332.2 + (1 : Int)) fun k373 =>
pure (own363, k373)) (own312, k322)) >>= fun (st332 : Int × Int) =>
Mir.lft (m_root_index n11 root292 b302) >>= fun r426 => Mir.lft (m_root_index n11 root292 b302) >>= fun r427 => Mir.lft (grd (List.length ([r426, r427] : List Int) ≤ 16000000)) >>= fun _ => bnd (PyData.list (List.map PyData.int ([r426, r427] : List Int))) fun d425 => Mir.lft (grd (OkD d425)) >>= fun _ => Mir.lft (grd (List.length ([st332.2, st332.2] : List Int) ≤ 16000000)) >>= fun _ => bnd (PyData.list (List.map PyData.int ([st332.2, st332.2] : List Int))) fun d428 => Mir.lft (grd (OkD d428)) >>= fun _ => Mir.lft (grP (d425 = d428)) >>= fun _ => if false = true then
(bnd false fun r404 => pure r404)
else
(m__law_are_figures_right >>= fun r424 => bnd r424 fun r421 => pure r421)))
else
(m__law_are_figures_right >>= fun r456 => bnd r456 fun r453 => pure r453)))))))
def okLaw (a : List Int) : Prop := ∃ s s1, m__law_pot a = some s ∧ Mir.run m_law s = some (true, s1)
section
variable {P : Program} {w : World} {K : PySem.W.Frag} {mg : Str → Option Value} {base : Heap}
theorem g_law (T : Tx mg base) (D0 : Dk P w K mg base "_law_pot" "_law_pot" t__law_pot 1 ["script"] (sp__law_pot K)) (D1 : Dk P w K mg base "_law_of" "_law_of" t__law_of 1 ["pot", "many"] (sp__law_of K)) (D2 : Dk P w K mg base "_law_one" "_law_one" t__law_one 2 ["pot", "items"] (sp__law_one K)) (D3 : Dk P w K mg base "_law_common" "_law_common" t__law_common 1 ["a", "b"] (sp__law_common K)) (D4 : Dk P w K mg base "_law_order" "_law_order" t__law_order 1 ["a", "n"] (sp__law_order K)) (D5 : Dk P w K mg base "rests_number" "rests_number" t_rests_number 6 ["n"] (sp_rests_number K)) (D6 : Dk P w K mg base "coprime_count" "coprime_count" t_coprime_count 5 ["number"] (sp_coprime_count K)) (D7 : Dk P w K mg base "coprimes_of" "coprimes_of" t_coprimes_of 6 ["number"] (sp_coprimes_of K)) (D8 : Dk P w K mg base "order_counts" "order_counts" t_order_counts 7 ["n"] (sp_order_counts K)) (D9 : Dk P w K mg base "greatest_order" "greatest_order" t_greatest_order 6 ["n"] (sp_greatest_order K)) (D10 : Dk P w K mg base "power_order" "power_order" t_power_order 7 ["a", "n"] (sp_power_order K)) (D11 : Dk P w K mg base "has_root" "has_root" t_has_root 5 ["n"] (sp_has_root K)) (D12 : Dk P w K mg base "roots_number" "roots_number" t_roots_number 7 ["n"] (sp_roots_number K)) (D13 : Dk P w K mg base "root_paper" "root_paper" t_root_paper 8 ["n"] (sp_root_paper K)) (D14 : Dk P w K mg base "root_paper_error" "root_paper_error" t_root_paper_error 8 ["n", "value"] (sp_root_paper_error K)) (D15 : Dk P w K mg base "least_root" "least_root" t_least_root 7 ["n"] (sp_least_root K)) (D16 : Dk P w K mg base "root_index" "root_index" t_root_index 1 ["n", "root", "a"] (sp_root_index K)) (D17 : Dk P w K mg base "_law_are_figures_right" "_law_are_figures_right" t__law_are_figures_right 9 ["pot"] (sp__law_are_figures_right K)) {f : Addr} {fd : FuncData} (F : Fun K "law" "law" t_law f fd) : FnG P w K mg base CX0 10 f fd ["script"] (spLaw K okLaw) := by
  obtain ⟨f0, fd0, F0, m0, G0, b0⟩ := D0
  obtain ⟨f1, fd1, F1, m1, G1, b1⟩ := D1
  obtain ⟨f2, fd2, F2, m2, G2, b2⟩ := D2
  obtain ⟨f3, fd3, F3, m3, G3, b3⟩ := D3
  obtain ⟨f4, fd4, F4, m4, G4, b4⟩ := D4
  obtain ⟨f5, fd5, F5, m5, G5, b5⟩ := D5
  obtain ⟨f6, fd6, F6, m6, G6, b6⟩ := D6
  obtain ⟨f7, fd7, F7, m7, G7, b7⟩ := D7
  obtain ⟨f8, fd8, F8, m8, G8, b8⟩ := D8
  obtain ⟨f9, fd9, F9, m9, G9, b9⟩ := D9
  obtain ⟨f10, fd10, F10, m10, G10, b10⟩ := D10
  obtain ⟨f11, fd11, F11, m11, G11, b11⟩ := D11
  obtain ⟨f12, fd12, F12, m12, G12, b12⟩ := D12
  obtain ⟨f13, fd13, F13, m13, G13, b13⟩ := D13
  obtain ⟨f14, fd14, F14, m14, G14, b14⟩ := D14
  obtain ⟨f15, fd15, F15, m15, G15, b15⟩ := D15
  obtain ⟨f16, fd16, F16, m16, G16, b16⟩ := D16
  obtain ⟨f17, fd17, F17, m17, G17, b17⟩ := D17
  refine okG0 F sc_law (fun vs H Q E h => ?_) (fun cdv A outer s0_ H vs Q E hr gd h => ?_)
  · obtain ⟨_, ⟨_, rfl, _⟩, _⟩ := h
    rfl
  · obtain ⟨p_script, ⟨v_script, rfl, r_script⟩, ⟨sP, s', hf, hm1⟩, fin0⟩ := h
    obtain ⟨r, hrt, hm0⟩ : ∃ r, r = true ∧ Mir.run m_law sP = some (r, s') := ⟨true, rfl, hm1⟩
    clear hm1
    unfold m_law at hm0
    have sc := sc_law
    refine ⟨_, pss_cons (ps_set (i := 1) sc.nd rfl (by first | exact Or.inl rfl | exact Or.inr rfl) (pe_cG G0 (hr.mono (by decide)) gd rfl m0 F0.kp b0 pass0 (pa_cons (pv 0) pa_nil))) (pss_cons (ps_set (i := 2) sc.nd rfl (by first | exact Or.inl rfl | exact Or.inr rfl) (pe_op op_add (pe_int) (pe_cG G1 (hr.mono (by decide)) gd rfl m1 F1.kp b1 pass0 (pa_cons (pv 1) (pa_cons (pe_cG G2 (hr.mono (by decide)) gd rfl m2 F2.kp b2 pass0 (pa_cons (pv 1) (pa_cons (pe_lst (pa_cons (pe_int) (pa_cons (pe_int) (pa_nil)))) (pa_nil)))) (pa_nil)))))) (pss_cons (ps_set (i := 2) sc.nd rfl (by first | exact Or.inl rfl | exact Or.inr rfl) (pe_cG G2 (hr.mono (by decide)) gd rfl m2 F2.kp b2 pass0 (pa_cons (pv 1) (pa_cons (pe_lst (pa_cons (pv 2) (pa_cons (pv 2) (pa_cons (pe_int) (pa_cons (pe_int) (pa_cons (pe_int) (pa_cons (pe_int) (pa_cons (pe_int) (pa_cons (pe_int) (pa_nil)))))))))) (pa_nil))))) (pss_cons (ps_set (i := 3) sc.nd rfl (by first | exact Or.inl rfl | exact Or.inr rfl) (pe_lc (own := [("a", 7)]) (g := (gName 7)) rfl sc.nd (pi_range2 rfl T.n_range (pa_cons (pe_int) (pa_cons (pe_op op_add (pv 2) (pe_int)) pa_nil))) (blkOk_by (N := ["script", "pot", "n", "rests", "orders", "due", "at", "a", "roots", "told", "paper", "root", "b", "own", "k"]) (sc := defScope t_law) (by decide +kernel)) (fun _ _ _ _ _ => pg_name (i := 7) sc.nd rfl (by first | exact Or.inl rfl | exact Or.inr rfl)) (fun _ _ _ _ _ => pts_one (pt_cmpR op_eq (pe_cG G3 (hr.mono (by decide)) gd rfl m3 F3.kp b3 pass0 (pa_cons (pv 7) (pa_cons (pv 2) (pa_nil)))) (pe_int) (nomark _))) (fun _ _ _ _ _ => pv 7))) (pss_cons (ps_set (i := 4) sc.nd rfl (by first | exact Or.inl rfl | exact Or.inr rfl) (pe_lc (own := [("a", 7)]) (g := (gName 7)) (tt := tYes) rfl sc.nd (k_pil K (pv 3)) (blkOk_by (N := ["script", "pot", "n", "rests", "orders", "due", "at", "a", "roots", "told", "paper", "root", "b", "own", "k"]) (sc := defScope t_law) (by decide +kernel)) (fun _ _ _ _ _ => pg_name (i := 7) sc.nd rfl (by first | exact Or.inl rfl | exact Or.inr rfl)) (fun _ _ _ _ _ => pts_nil) (fun _ _ _ _ _ => pe_cG G4 (hr.mono (by decide)) gd rfl m4 F4.kp b4 pass0 (pa_cons (pv 7) (pa_cons (pv 2) (pa_nil)))))) (pss_cons (ps_if (pt_cmpR op_ne (pe_callB (k_repr K hr gd T.nd) (by rfl) T.n_repr (by decide +kernel) (pa_cons (pe_lst (pa_cons (pe_cG G5 (hr.mono (by decide)) gd rfl m5 F5.kp b5 pass0 (pa_cons (pv 2) (pa_nil))) (pa_cons (pe_cG G6 (hr.mono (by decide)) gd rfl m6 F6.kp b6 pass0 (pa_cons (pv 2) (pa_nil))) (pa_cons (pe_cGK0 (ks := ["n"]) (ix := [0]) G5 (hr.mono (by decide)) gd rfl m5 F5.kp (Fun.kb F5 (ps := ["n"]) (ks := ["n"]) (n := 0) (ix := [0]) fun _ _ _ _ _ _ us ws h1 h2 => match us, ws, h1, h2 with | [], [_], _, _ => rfl) pass0 (pk_cons (pv 2) (pk_nil))) (pa_nil))))) pa_nil)) (pe_callB (k_repr K hr gd T.nd) (by rfl) T.n_repr (by decide +kernel) (pa_cons (pe_op op_rep (pe_lst (pa_cons (pe_callB (k_len K) (by rfl) T.n_len (by decide +kernel) (pa_cons (pv 3) pa_nil)) (pa_nil))) (pe_int)) pa_nil)) (nomark _)) (pss_cons (ps_ret (pe_bl)) (pss_nil)) (pss_nil)) (pss_cons (ps_if (pt_cmpR (k_neD K hr) (pe_cG G7 (hr.mono (by decide)) gd rfl m7 F7.kp b7 pass0 (pa_cons (pv 2) (pa_nil))) (pe_callTy (k_tupOf K) (by rfl) T.n_tuple (by decide +kernel) (pa_cons (pv 3) pa_nil)) (nomark _)) (pss_cons (ps_ret (pe_bl)) (pss_nil)) (pss_nil)) (pss_cons (ps_set (i := 5) sc.nd rfl (by first | exact Or.inl rfl | exact Or.inr rfl) (pe_callTy (k_tupOf K) (by rfl) T.n_tuple (by decide +kernel) (pa_cons (pe_lc (own := [("k", 14)]) (g := (gName 14)) (tt := tYes) rfl sc.nd (k_pil K (pe_callB k_srtS (by rfl) T.n_sorted (by decide +kernel) (pa_cons (pe_callTy (k_setI K) (by rfl) T.n_set (by decide +kernel) (pa_cons (pv 4) pa_nil)) pa_nil))) (blkOk_by (N := ["script", "pot", "n", "rests", "orders", "due", "at", "a", "roots", "told", "paper", "root", "b", "own", "k"]) (sc := defScope t_law) (by decide +kernel)) (fun _ _ _ _ _ => pg_name (i := 14) sc.nd rfl (by first | exact Or.inl rfl | exact Or.inr rfl)) (fun _ _ _ _ _ => pts_nil) (fun _ _ _ _ _ => pe_tup (pa_cons (pv 14) (pa_cons (pe_bmK K PySem.F.plainAttrs_list PySem.F.slot_list_count PySem.F.type_list_count (k_cnt K) (pv 4) (pa_cons (pv 14) pa_nil)) (pa_nil))))) pa_nil))) (pss_cons (ps_if (PW.pt (pw_or (pt_cmpR op_ne (pe_callB (k_repr K hr gd T.nd) (by rfl) T.n_repr (by decide +kernel) (pa_cons (pe_lst (pa_cons (pe_cG G8 (hr.mono (by decide)) gd rfl m8 F8.kp b8 pass0 (pa_cons (pv 2) (pa_nil))) (pa_cons (pe_cGK0 (ks := ["n"]) (ix := [0]) G8 (hr.mono (by decide)) gd rfl m8 F8.kp (Fun.kb F8 (ps := ["n"]) (ks := ["n"]) (n := 0) (ix := [0]) fun _ _ _ _ _ _ us ws h1 h2 => match us, ws, h1, h2 with | [], [_], _, _ => rfl) pass0 (pk_cons (pv 2) (pk_nil))) (pa_nil)))) pa_nil)) (pe_callB (k_repr K hr gd T.nd) (by rfl) T.n_repr (by decide +kernel) (pa_cons (pe_lst (pa_cons (pv 5) (pa_cons (pv 5) (pa_nil)))) pa_nil)) (nomark _)) (pw_or1 (pt_cmpR op_ne (pe_cG G9 (hr.mono (by decide)) gd rfl m9 F9.kp b9 pass0 (pa_cons (pv 2) (pa_nil))) (pe_callB (k_max K) (by rfl) T.n_max (by decide +kernel) (pa_cons (pv 4) pa_nil)) (nomark _))))) (pss_cons (ps_ret (pe_bl)) (pss_nil)) (pss_nil)) (pss_cons (ps_set (i := 6) sc.nd rfl (by first | exact Or.inl rfl | exact Or.inr rfl) (pe_cG G1 (hr.mono (by decide)) gd rfl m1 F1.kp b1 pass0 (pa_cons (pv 1) (pa_cons (pe_callB (k_len K) (by rfl) T.n_len (by decide +kernel) (pa_cons (pv 3) pa_nil)) (pa_nil))))) (pss_cons (ps_set (i := 7) sc.nd rfl (by first | exact Or.inl rfl | exact Or.inr rfl) (pe_op op_add (pe_ix (k_ixL K) (pv 3) (pv 6) (fun _ _ => rfl)) (pe_op op_mulX (pv 2) (pe_cG G1 (hr.mono (by decide)) gd rfl m1 F1.kp b1 pass0 (pa_cons (pv 1) (pa_cons (pe_int) (pa_nil))))))) (pss_cons (ps_if (pt_cmpR op_ne (pe_callB (k_repr K hr gd T.nd) (by rfl) T.n_repr (by decide +kernel) (pa_cons (pe_lst (pa_cons (pe_cG G10 (hr.mono (by decide)) gd rfl m10 F10.kp b10 pass0 (pa_cons (pv 7) (pa_cons (pv 2) (pa_nil)))) (pa_cons (pe_cGK0 (ks := ["n", "a"]) (ix := [1, 0]) G10 (hr.mono (by decide)) gd rfl m10 F10.kp (Fun.kb F10 (ps := ["a", "n"]) (ks := ["n", "a"]) (n := 0) (ix := [1, 0]) fun _ _ _ _ _ _ us ws h1 h2 => match us, ws, h1, h2 with | [], [_, _], _, _ => rfl) pass0 (pk_cons (pv 2) (pk_cons (pv 7) (pk_nil)))) (pa_nil)))) pa_nil)) (pe_callB (k_repr K hr gd T.nd) (by rfl) T.n_repr (by decide +kernel) (pa_cons (pe_op op_rep (pe_lst (pa_cons (pe_ix (k_ixL K) (pv 4) (pv 6) (fun _ _ => rfl)) (pa_nil))) (pe_int)) pa_nil)) (nomark _)) (pss_cons (ps_ret (pe_bl)) (pss_nil)) (pss_nil)) (pss_cons (ps_setLc (i := 8) (own := [("own", 13), ("k", 14)]) (g := (gTup K 2 (gCons (gName 13) (gCons (gName 14) gNil)))) rfl sc.nd rfl rfl (sw_true rfl rfl rfl (by decide +kernel)) (k_pizA K rfl T.n_zip (pa_cons (pv 3) (pa_cons (pv 4) pa_nil))) (blkOk_by (N := ["script", "pot", "n", "rests", "orders", "due", "at", "a", "roots", "told", "paper", "root", "b", "own", "k"]) (sc := defScope t_law) (by decide +kernel)) (fun _ _ _ _ _ => k_gt K (pgs_cons (pg_name (i := 13) sc.nd rfl (by first | exact Or.inl rfl | exact Or.inr rfl)) (pgs_cons (pg_name (i := 14) sc.nd rfl (by first | exact Or.inl rfl | exact Or.inr rfl)) (pgs_nil)))) (fun _ _ _ _ _ => pts_one (pt_cmpR op_eq (pv 14) (pe_callB (k_len K) (by rfl) T.n_len (by decide +kernel) (pa_cons (pv 3) pa_nil)) (nomark _))) (fun _ _ _ _ _ => pv 13)) (pss_cons (ps_set (i := 9) sc.nd rfl (by first | exact Or.inl rfl | exact Or.inr rfl) (pe_lst (pa_cons (pe_cG G11 (hr.mono (by decide)) gd rfl m11 F11.kp b11 pass0 (pa_cons (pv 2) (pa_nil))) (pa_cons (pe_cG G12 (hr.mono (by decide)) gd rfl m12 F12.kp b12 pass0 (pa_cons (pv 2) (pa_nil))) (pa_cons (pe_cGK0 (ks := ["n"]) (ix := [0]) G11 (hr.mono (by decide)) gd rfl m11 F11.kp (Fun.kb F11 (ps := ["n"]) (ks := ["n"]) (n := 0) (ix := [0]) fun _ _ _ _ _ _ us ws h1 h2 => match us, ws, h1, h2 with | [], [_], _, _ => rfl) pass0 (pk_cons (pv 2) (pk_nil))) (pa_cons (pe_cGK0 (ks := ["n"]) (ix := [0]) G12 (hr.mono (by decide)) gd rfl m12 F12.kp (Fun.kb F12 (ps := ["n"]) (ks := ["n"]) (n := 0) (ix := [0]) fun _ _ _ _ _ _ us ws h1 h2 => match us, ws, h1, h2 with | [], [_], _, _ => rfl) pass0 (pk_cons (pv 2) (pk_nil))) (pa_nil))))))) (pss_cons (ps_if (pt_cmpR op_ne (pe_callB (k_repr K hr gd T.nd) (by rfl) T.n_repr (by decide +kernel) (pa_cons (pv 9) pa_nil)) (pe_callB (k_repr K hr gd T.nd) (by rfl) T.n_repr (by decide +kernel) (pa_cons (pe_op op_rep (pe_lst (pa_cons (pe_cmpR (k_neD K hr) (pv 8) (pe_lst (pa_nil)) (nomark _)) (pa_cons (pe_callB (k_len K) (by rfl) T.n_len (by decide +kernel) (pa_cons (pv 8) pa_nil)) (pa_nil)))) (pe_int)) pa_nil)) (nomark _)) (pss_cons (ps_ret (pe_bl)) (pss_nil)) (pss_nil)) (pss_cons (ps_set (i := 10) sc.nd rfl (by first | exact Or.inl rfl | exact Or.inr rfl) (pe_cG G13 (hr.mono (by decide)) gd rfl m13 F13.kp b13 pass0 (pa_cons (pv 2) (pa_nil)))) (pss_cons (ps_if (PW.pt (pw_or (pt_cmpR op_ne (pe_cmpR op_eq (pe_ix (k_ixT K) (pv 10) (pe_int) (fun _ _ => rfl)) (pe_str) (nomark _)) (pe_cmpR (k_neD K hr) (pv 8) (pe_lst (pa_nil)) (nomark _)) (nomark _)) (pw_or1 (pt_cmpR op_notN (pe_cG G14 (hr.mono (by decide)) gd rfl m14 F14.kp b14 pass0 (pa_cons (pv 2) (pa_cons (pv 10) (pa_nil)))) (pe_non) (nomark _))))) (pss_cons (ps_ret (pe_bl)) (pss_nil)) (pss_nil)) (pss_cons (ps_if (pt_cmpR (k_neD K hr) (pv 8) (pe_lst (pa_nil)) (nomark _)) (pss_cons (ps_if (PW.pt (pw_or (pt_cmpR op_ne (pe_cG G15 (hr.mono (by decide)) gd rfl m15 F15.kp b15 pass0 (pa_cons (pv 2) (pa_nil))) (pe_ix (k_ixL K) (pv 8) (pe_int) (fun _ _ => rfl)) (nomark _)) (pw_or1 (pt_cmpR op_ne (pe_callB (k_len K) (by rfl) T.n_len (by decide +kernel) (pa_cons (pv 8) pa_nil)) (pe_cG G6 (hr.mono (by decide)) gd rfl m6 F6.kp b6 pass0 (pa_cons (pe_cG G6 (hr.mono (by decide)) gd rfl m6 F6.kp b6 pass0 (pa_cons (pv 2) (pa_nil))) (pa_nil))) (nomark _))))) (pss_cons (ps_ret (pe_bl)) (pss_nil)) (pss_nil)) (pss_cons (ps_par (i := 11) (j := 12) rfl sc.nd rfl rfl (by decide) rfl rfl (pa_cons (pe_cG G2 (hr.mono (by decide)) gd rfl m2 F2.kp b2 pass0 (pa_cons (pv 1) (pa_cons (pv 8) (pa_nil)))) (pa_cons (pe_cG G2 (hr.mono (by decide)) gd rfl m2 F2.kp b2 pass0 (pa_cons (pv 1) (pa_cons (pv 3) (pa_nil)))) (pa_nil))) (by rfl)) (pss_cons (ps_par (i := 13) (j := 14) rfl sc.nd rfl rfl (by decide) rfl rfl (pa_cons (pe_op op_mod (pe_callTy call_int1 (by rfl) T.n_int (by decide +kernel) (pa_cons (pe_int) pa_nil)) (pv 2)) (pa_cons (pe_int) (pa_nil))) (by rfl)) (pss_cons (ps_while PassesOwn.never (pt_cmpR op_ne (pv 13) (pe_op op_mod (pe_callTy call_int1 (by rfl) T.n_int (by decide +kernel) (pa_cons (pv 12) pa_nil)) (pv 2)) (nomark _)) (pss_cons (ps_par (i := 13) (j := 14) rfl sc.nd rfl rfl (by decide) rfl rfl (pa_cons (pe_op op_mod (pe_callTy call_int1 (by rfl) T.n_int (by decide +kernel) (pa_cons (pe_op op_mulX (pv 13) (pv 11)) pa_nil)) (pv 2)) (pa_cons (pe_op op_add (pv 14) (pe_int)) (pa_nil))) (by rfl)) (pss_nil))) (pss_cons (ps_if (pt_cmpR op_ne (pe_callB (k_repr K hr gd T.nd) (by rfl) T.n_repr (by decide +kernel) (pa_cons (pe_lst (pa_cons (pe_cG G16 (hr.mono (by decide)) gd rfl m16 F16.kp b16 pass0 (pa_cons (pv 2) (pa_cons (pv 11) (pa_cons (pv 12) (pa_nil))))) (pa_cons (pe_cGK0 (ks := ["a", "root", "n"]) (ix := [2, 1, 0]) G16 (hr.mono (by decide)) gd rfl m16 F16.kp (Fun.kb F16 (ps := ["n", "root", "a"]) (ks := ["a", "root", "n"]) (n := 0) (ix := [2, 1, 0]) fun _ _ _ _ _ _ us ws h1 h2 => match us, ws, h1, h2 with | [], [_, _, _], _, _ => rfl) pass0 (pk_cons (pv 12) (pk_cons (pv 11) (pk_cons (pv 2) (pk_nil))))) (pa_nil)))) pa_nil)) (pe_callB (k_repr K hr gd T.nd) (by rfl) T.n_repr (by decide +kernel) (pa_cons (pe_lst (pa_cons (pv 14) (pa_cons (pv 14) (pa_nil)))) pa_nil)) (nomark _)) (pss_cons (ps_ret (pe_bl)) (pss_nil)) (pss_nil)) (pss_nil)))))) (pss_nil)) (pss_cons (ps_ret (pe_cG G17 (hr.mono (by decide)) gd rfl m17 F17.kp b17 pass0 (pa_cons (pv 1) (pa_nil)))) (pss_nil))))))))))))))))))), ?_⟩
    refine q_pot (hd := potHd) (S := H) Ex.rf rfl r_script hf (fun v => [some v_script, some v, none, none, none, none, none, none, none, none, none, none, none, none, none]) (fun _ => rfl) ?_
    intro i S0 H0 w0 p0 g0
    have fin : ∀ v {H' : Hp}, (∃ S', Gm (potPt i).M S0 H0 S' H' ∧ PotAt (potPt i) s' S' H' ∧ rB r v S') → Q v H' := fun v {H'} ⟨S', _, _, h3⟩ => by cases hrt; cases (show v = .bl true from h3); exact fin0 H'
    refine q_set (fun v => [some v_script, some (.ref i.a), some v, none, none, none, none, none, none, none, none, none, none, none, none]) (fun _ => rfl) w0 p0 (e_add e_cI (Ev.eta (e_callP (F := fun i => potPt i) (i := i) (A := fun i => (aCons (rP i) (aOne rI))) (E := E0) (fm := fm__law_of) (R := rI) (a_cons (e_var (R := rP i) (a := ()) rfl rfl) (a_one (Ev.eta (e_callP (F := fun i => potPt i) (i := i) (A := fun i => (aCons (rP i) (aOne (rL (aAll rI))))) (E := E0) (fm := fm__law_one) (R := rI) (a_cons (e_var (R := rP i) (a := ()) rfl rfl) (a_one (EvL.frz (l_lstL (a_consL e_cI (a_consL e_cI (a_nilL (R := rI))))))))))))))) hm0 ?_
    intro n1 vn9 S2 H3 s4 w5 p6 g8 rn10 hm7
    cases (show vn9 = .int n1 from rn10)
    refine q_set (fun v => [some v_script, some (.ref i.a), some v, none, none, none, none, none, none, none, none, none, none, none, none]) (fun _ => rfl) w5 p6 (Ev.eta (e_callP (F := fun i => potPt i) (i := i) (A := fun i => (aCons (rP i) (aOne (rL (aAll rI))))) (E := E0) (fm := fm__law_one) (R := rI) (a_cons (e_var (R := rP i) (a := ()) rfl rfl) (a_one (EvL.frz (l_lstL (a_consL (e_var (R := rI) rfl rfl) (a_consL (e_var (R := rI) rfl rfl) (a_consL e_cI (a_consL e_cI (a_consL e_cI (a_consL e_cI (a_consL e_cI (a_consL e_cI (a_nilL (R := rI)))))))))))))))) hm7 ?_
    intro n11 vn19 S12 H13 s14 w15 p16 g18 rn20 hm17
    cases (show vn19 = .int n11 from rn20)
    refine q_set (fun v => [some v_script, some (.ref i.a), some (.int n11), some v, none, none, none, none, none, none, none, none, none, none, none]) (fun _ => rfl) w15 p16 (EvL.frz (l_lc (γ := Int) (vs := [7]) (mt := fun x21 k => Mir.lft (m__law_common x21 n11) >>= fun r25 => k (decide (r25 = (1 : Int)))) (me := fun x21 k => k x21) (R' := rI) (i_R2 e_cI (e_add (e_var (R := rI) rfl rfl) e_cI)) ownOk0 (g_nm (R := rI)) (fun x σ' S hp => by obtain ⟨_, rfl, _⟩ := hp; rfl) (fun x21 σ' S1 H1 g22 hp => by have w23 := w15.go g22; obtain ⟨_, rfl, rfl⟩ := hp; exact (t_Test (e_eq (Ev.eta (e_call (E := E0) (fm := fm__law_common) (R := rI) (a_cons (e_var (R := rI) rfl rfl) (a_one (e_var (R := rI) rfl rfl))))) e_cI))) (fun x21 σ' S1 H1 g22 hp => by have w23 := w15.go g22; obtain ⟨_, rfl, rfl⟩ := hp; exact (e_var (R := rI) rfl rfl)) pm_nm)) hm17 ?_
    intro rests26 vrests34 S27 H28 s29 w30 p31 g33 rrests35 hm32
    refine q_set (fun v => [some v_script, some (.ref i.a), some (.int n11), some vrests34, some v, none, none, none, none, none, none, none, none, none, none]) (fun _ => rfl) w30 p31 (EvL.frz (l_lc1 (γ := Int) (vs := [7]) (me := fun x36 k => Mir.lft (m__law_order x36 n11) >>= fun r39 => k r39) (R' := rI) (i_L (K := K) (e_var rfl rrests35)) ownOk0 (g_nm (R := rI)) (fun x σ' S hp => by obtain ⟨_, rfl, _⟩ := hp; rfl) (fun x36 σ' S1 H1 g37 hp => by have w38 := w30.go g37; obtain ⟨_, rfl, rfl⟩ := hp; have rrests35 := Mo.mo g37.s rrests35; exact (Ev.eta (e_call (E := E0) (fm := fm__law_order) (R := rI) (a_cons (e_var (R := rI) rfl rfl) (a_one (e_var (R := rI) rfl rfl)))))) pm_nm)) hm32 ?_
    intro orders41 vorders49 S42 H43 s44 w45 p46 g48 rorders50 hm47
    have rrests35 := Mo.mo g48.s rrests35
    refine q_if w45 p46 (t_Test (e_neW (c_repr (EvL.frz (l_lstL (a_consL (Ev.eta (e_call (E := E0) (fm := fm_rests_number) (R := rI) (a_one (e_var (R := rI) rfl rfl)))) (a_consL (Ev.eta (e_call (E := E0) (fm := fm_coprime_count) (R := rI) (a_one (e_var (R := rI) rfl rfl)))) (a_consL (e_callK (E := E0) (n := 0) (m' := 1) (ix := [0]) (fm := fm_rests_number) (A := (aOne rI)) (A1 := aNil) (A2 := (aOne rI)) (R := rI) (fun a b => b) a_nil (a_one (e_var (R := rI) rfl rfl)) (fun a b vs zs S h1 h2 => by obtain rfl := h1; obtain ⟨_, rfl, y0⟩ := h2; exact ⟨rfl, rfl, ⟨_, rfl, y0⟩⟩)) (a_nilL (R := rI))))))) (d_L (ds_all d_I))) (c_repr (EvL.frz (l_rep (EvL.rd (l_lstL (a_consL (c_lenL (Ev.rd (e_var rfl rrests35))) (a_nilL (R := rI))))) e_cI)) (d_L (ds_all d_I))))) hm47 ?_ ?_
    · intro S51 H52 s53 w54 p55 g56 hm57
      have rrests35 := Mo.mo g56.s rrests35
      have rorders50 := Mo.mo g56.s rorders50
      refine q_ret w54 p55 e_cB hm57 ?_
      intro r65 v66 S58 H59 s60 w61 p62 g64 rr67 hm63
      cases run_of_pure hm63
      exact fin _ ⟨S58, w61.g, p62, rr67⟩
    · intro S68 H69 s70 w71 p72 g73 hm74
      have rrests35 := Mo.mo g73.s rrests35
      have rorders50 := Mo.mo g73.s rorders50
      refine nx_done ?_
      refine q_if w71 p72 (t_Test (e_neQ (q_T (qs_all q_I)) (by decide) (Ev.Q (Ev.eta (e_call (E := E0) (fm := fm_coprimes_of) (R := (rT K (aAll rI))) (a_one (e_var (R := rI) rfl rfl)))) (d_T (ds_all d_I))) (Ev.Q (c_tup (K := K) (Ev.rd (e_var rfl rrests35))) (d_T (ds_all d_I))))) hm74 ?_ ?_
      · intro S75 H76 s77 w78 p79 g80 hm81
        have rrests35 := Mo.mo g80.s rrests35
        have rorders50 := Mo.mo g80.s rorders50
        refine q_ret w78 p79 e_cB hm81 ?_
        intro r89 v90 S82 H83 s84 w85 p86 g88 rr91 hm87
        cases run_of_pure hm87
        exact fin _ ⟨S82, w85.g, p86, rr91⟩
      · intro S92 H93 s94 w95 p96 g97 hm98
        have rrests35 := Mo.mo g97.s rrests35
        have rorders50 := Mo.mo g97.s rorders50
        refine nx_done ?_
        refine q_set (fun v => [some v_script, some (.ref i.a), some (.int n11), some vrests34, some vorders49, some v, none, none, none, none, none, none, none, none, none]) (fun _ => rfl) w95 p96 (c_tup (K := K) (EvL.rd (l_lc1T (vs := [14]) (f := (fun x99 => (x99, (List.count x99 orders41 : Int)))) (R' := (rT K (aCons rI (aOne rI)))) (i_L (K := K) (EvL.frz (l_srtSet (K := K) (Ev.rd (e_var rfl rorders50))))) ownOk0 (g_nm (R := rI)) (fun x σ' S hp => by obtain ⟨_, rfl, _⟩ := hp; rfl) (fun x99 σ' S1 H1 g100 hp => by have w101 := w95.go g100; obtain ⟨_, rfl, rfl⟩ := hp; have rrests35 := Mo.mo g100.s rrests35; have rorders50 := Mo.mo g100.s rorders50; exact (e_tup (K := K) (a_cons (e_var (R := rI) rfl rfl) (a_one (c_cnt (K := K) (Ev.rd (e_var rfl rorders50)) (e_var (R := rI) rfl rfl)))) (arN_cons arN_one) (by decide))) pm_nm))) hm98 ?_
        intro due102 vdue110 S103 H104 s105 w106 p107 g109 rdue111 hm108
        have rrests35 := Mo.mo g109.s rrests35
        have rorders50 := Mo.mo g109.s rorders50
        refine q_if w106 p107 (t_or (t_Test (e_neW (c_repr (EvL.frz (l_lstL (a_consL (Ev.eta (e_call (E := E0) (fm := fm_order_counts) (R := (rT K (aAll (rT K (aCons rI (aOne rI)))))) (a_one (e_var (R := rI) rfl rfl)))) (a_consL (e_callK (E := E0) (n := 0) (m' := 1) (ix := [0]) (fm := fm_order_counts) (A := (aOne rI)) (A1 := aNil) (A2 := (aOne rI)) (R := (rT K (aAll (rT K (aCons rI (aOne rI)))))) (fun a b => b) a_nil (a_one (e_var (R := rI) rfl rfl)) (fun a b vs zs S h1 h2 => by obtain rfl := h1; obtain ⟨_, rfl, y0⟩ := h2; exact ⟨rfl, rfl, ⟨_, rfl, y0⟩⟩)) (a_nilL (R := (rT K (aAll (rT K (aCons rI (aOne rI))))))))))) (d_L (ds_all (d_T (ds_all (d_T (ds_cons d_I (ds_one d_I)))))))) (c_repr (EvL.frz (l_lstL (a_consL (e_var rfl rdue111) (a_consL (e_var rfl rdue111) (a_nilL (R := (rT K (aAll (rT K (aCons rI (aOne rI))))))))))) (d_L (ds_all (d_T (ds_all (d_T (ds_cons d_I (ds_one d_I)))))))))) (t_Test (e_ne (Ev.eta (e_call (E := E0) (fm := fm_greatest_order) (R := rI) (a_one (e_var (R := rI) rfl rfl)))) (c_max (Ev.rd (e_var rfl rorders50)))))) hm108 ?_ ?_
        · intro S112 H113 s114 w115 p116 g117 hm118
          have rrests35 := Mo.mo g117.s rrests35
          have rorders50 := Mo.mo g117.s rorders50
          have rdue111 := Mo.mo g117.s rdue111
          refine q_ret w115 p116 e_cB hm118 ?_
          intro r126 v127 S119 H120 s121 w122 p123 g125 rr128 hm124
          cases run_of_pure hm124
          exact fin _ ⟨S119, w122.g, p123, rr128⟩
        · intro S129 H130 s131 w132 p133 g134 hm135
          have rrests35 := Mo.mo g134.s rrests35
          have rorders50 := Mo.mo g134.s rorders50
          have rdue111 := Mo.mo g134.s rdue111
          refine nx_done ?_
          refine q_set (fun v => [some v_script, some (.ref i.a), some (.int n11), some vrests34, some vorders49, some vdue110, some v, none, none, none, none, none, none, none, none]) (fun _ => rfl) w132 p133 (Ev.eta (e_callP (F := fun i => potPt i) (i := i) (A := fun i => (aCons (rP i) (aOne rI))) (E := E0) (fm := fm__law_of) (R := rI) (a_cons (e_var (R := rP i) (a := ()) rfl rfl) (a_one (c_lenL (Ev.rd (e_var rfl rrests35))))))) hm135 ?_
          intro at136 vat144 S137 H138 s139 w140 p141 g143 rat145 hm142
          cases (show vat144 = .int at136 from rat145)
          have rrests35 := Mo.mo g143.s rrests35
          have rorders50 := Mo.mo g143.s rorders50
          have rdue111 := Mo.mo g143.s rdue111
          refine q_set (fun v => [some v_script, some (.ref i.a), some (.int n11), some vrests34, some vorders49, some vdue110, some (.int at136), some v, none, none, none, none, none, none, none]) (fun _ => rfl) w140 p141 (e_add (e_ixL (Ev.rd (e_var rfl rrests35)) (e_var (R := rI) rfl rfl)) (e_mul (e_var (R := rI) rfl rfl) (Ev.eta (e_callP (F := fun i => potPt i) (i := i) (A := fun i => (aCons (rP i) (aOne rI))) (E := E0) (fm := fm__law_of) (R := rI) (a_cons (e_var (R := rP i) (a := ()) rfl rfl) (a_one e_cI)))))) hm142 ?_
          intro a146 va154 S147 H148 s149 w150 p151 g153 ra155 hm152
          cases (show va154 = .int a146 from ra155)
          have rrests35 := Mo.mo g153.s rrests35
          have rorders50 := Mo.mo g153.s rorders50
          have rdue111 := Mo.mo g153.s rdue111
          refine q_if w150 p151 (t_Test (e_neW (c_repr (EvL.frz (l_lstL (a_consL (Ev.eta (e_call (E := E0) (fm := fm_power_order) (R := rI) (a_cons (e_var (R := rI) rfl rfl) (a_one (e_var (R := rI) rfl rfl))))) (a_consL (e_callK (E := E0) (n := 0) (m' := 2) (ix := [1, 0]) (fm := fm_power_order) (A := (aCons rI (aOne rI))) (A1 := aNil) (A2 := (aCons rI (aOne rI))) (R := rI) (fun a b => (b.2, b.1)) a_nil (a_cons (e_var (R := rI) rfl rfl) (a_one (e_var (R := rI) rfl rfl))) (fun a b vs zs S h1 h2 => by obtain rfl := h1; obtain ⟨_, _, rfl, y0, ⟨_, rfl, y1⟩⟩ := h2; exact ⟨rfl, rfl, ⟨_, _, rfl, y1, ⟨_, rfl, y0⟩⟩⟩)) (a_nilL (R := rI)))))) (d_L (ds_all d_I))) (c_repr (EvL.frz (l_rep (EvL.rd (l_lstL (a_consL (e_ixL (Ev.rd (e_var rfl rorders50)) (e_var (R := rI) rfl rfl)) (a_nilL (R := rI))))) e_cI)) (d_L (ds_all d_I))))) hm152 ?_ ?_
          · intro S156 H157 s158 w159 p160 g161 hm162
            have rrests35 := Mo.mo g161.s rrests35
            have rorders50 := Mo.mo g161.s rorders50
            have rdue111 := Mo.mo g161.s rdue111
            refine q_ret w159 p160 e_cB hm162 ?_
            intro r170 v171 S163 H164 s165 w166 p167 g169 rr172 hm168
            cases run_of_pure hm168
            exact fin _ ⟨S163, w166.g, p167, rr172⟩
          · intro S173 H174 s175 w176 p177 g178 hm179
            have rrests35 := Mo.mo g178.s rrests35
            have rorders50 := Mo.mo g178.s rorders50
            have rdue111 := Mo.mo g178.s rdue111
            refine nx_done ?_
            refine q_set (fun v => [some v_script, some (.ref i.a), some (.int n11), some vrests34, some vorders49, some vdue110, some (.int at136), some (.int a146), some v, none, none, none, none, none, none]) (fun _ => rfl) w176 p177 (EvL.frz (l_lcT (vs := [13, 14]) (t := (fun x180 => (decide (x180.2 = (List.length rests26 : Int))))) (f := (fun x180 => x180.1)) (R' := rI) (i_zipL (K := K) (e_var rfl rrests35) (e_var rfl rorders50)) ownOk0 (g_tp (gq_cons (g_nm (R := rI)) (gq_one (g_nm (R := rI))))) (fun x σ' S hp => by obtain ⟨_, ⟨_, rfl, _⟩, ⟨_, rfl, _⟩⟩ := hp; rfl) (fun x180 σ' S1 H1 g181 hp => by have w182 := w176.go g181; obtain ⟨_, ⟨_, rfl, rfl⟩, ⟨_, rfl, rfl⟩⟩ := hp; have rrests35 := Mo.mo g181.s rrests35; have rorders50 := Mo.mo g181.s rorders50; have rdue111 := Mo.mo g181.s rdue111; exact (t_Test (e_eq (e_var (R := rI) rfl rfl) (c_lenL (Ev.rd (e_var rfl rrests35)))))) (fun x180 σ' S1 H1 g181 hp => by have w182 := w176.go g181; obtain ⟨_, ⟨_, rfl, rfl⟩, ⟨_, rfl, rfl⟩⟩ := hp; have rrests35 := Mo.mo g181.s rrests35; have rorders50 := Mo.mo g181.s rorders50; have rdue111 := Mo.mo g181.s rdue111; exact (e_var (R := rI) rfl rfl)) (pm_cons pm_nm pm_nm))) hm179 ?_
            intro roots183 vroots191 S184 H185 s186 w187 p188 g190 rroots192 hm189
            have rrests35 := Mo.mo g190.s rrests35
            have rorders50 := Mo.mo g190.s rorders50
            have rdue111 := Mo.mo g190.s rdue111
            refine q_set (fun v => [some v_script, some (.ref i.a), some (.int n11), some vrests34, some vorders49, some vdue110, some (.int at136), some (.int a146), some vroots191, some v, none, none, none, none, none]) (fun _ => rfl) w187 p188 (EvL.frz (l_lst (a_cons (Ev.eta (e_call (E := E0) (fm := fm_has_root) (R := rB) (a_one (e_var (R := rI) rfl rfl)))) (a_cons (Ev.eta (e_call (E := E0) (fm := fm_roots_number) (R := rI) (a_one (e_var (R := rI) rfl rfl)))) (a_cons (e_callK (E := E0) (n := 0) (m' := 1) (ix := [0]) (fm := fm_has_root) (A := (aOne rI)) (A1 := aNil) (A2 := (aOne rI)) (R := rB) (fun a b => b) a_nil (a_one (e_var (R := rI) rfl rfl)) (fun a b vs zs S h1 h2 => by obtain rfl := h1; obtain ⟨_, rfl, y0⟩ := h2; exact ⟨rfl, rfl, ⟨_, rfl, y0⟩⟩)) (a_one (e_callK (E := E0) (n := 0) (m' := 1) (ix := [0]) (fm := fm_roots_number) (A := (aOne rI)) (A1 := aNil) (A2 := (aOne rI)) (R := rI) (fun a b => b) a_nil (a_one (e_var (R := rI) rfl rfl)) (fun a b vs zs S h1 h2 => by obtain rfl := h1; obtain ⟨_, rfl, y0⟩ := h2; exact ⟨rfl, rfl, ⟨_, rfl, y0⟩⟩)))))) (arN_cons (arN_cons (arN_cons arN_one))) (by decide))) hm189 ?_
            intro told193 vtold201 S194 H195 s196 w197 p198 g200 rtold202 hm199
            have rrests35 := Mo.mo g200.s rrests35
            have rorders50 := Mo.mo g200.s rorders50
            have rdue111 := Mo.mo g200.s rdue111
            have rroots192 := Mo.mo g200.s rroots192
            refine q_if w197 p198 (t_Test (e_neW (c_repr (e_var rfl rtold202) (d_L (ds_cons d_B (ds_cons d_I (ds_cons d_B (ds_one d_I)))))) (c_repr (EvL.frz (l_rep (EvL.rd (l_lstL (a_consL (Ev.inl (R' := rI) (e_neQ (q_L (qs_all q_I)) (by decide) (Ev.Q (e_var rfl rroots192) (d_L (ds_all d_I))) (EvR.Q (EvL.rd (l_lstL (a_nilL (R := rI)))) (ds_all d_I)))) (a_consL (Ev.inr (R' := rB) (c_lenL (Ev.rd (e_var rfl rroots192)))) (a_nilL (R := (rU rB rI))))))) e_cI)) (d_L (ds_all (d_U d_B d_I)))))) hm199 ?_ ?_
            · intro S203 H204 s205 w206 p207 g208 hm209
              have rrests35 := Mo.mo g208.s rrests35
              have rorders50 := Mo.mo g208.s rorders50
              have rdue111 := Mo.mo g208.s rdue111
              have rroots192 := Mo.mo g208.s rroots192
              have rtold202 := Mo.mo g208.s rtold202
              refine q_ret w206 p207 e_cB hm209 ?_
              intro r217 v218 S210 H211 s212 w213 p214 g216 rr219 hm215
              cases run_of_pure hm215
              exact fin _ ⟨S210, w213.g, p214, rr219⟩
            · intro S220 H221 s222 w223 p224 g225 hm226
              have rrests35 := Mo.mo g225.s rrests35
              have rorders50 := Mo.mo g225.s rorders50
              have rdue111 := Mo.mo g225.s rdue111
              have rroots192 := Mo.mo g225.s rroots192
              have rtold202 := Mo.mo g225.s rtold202
              refine nx_done ?_
              refine q_set (fun v => [some v_script, some (.ref i.a), some (.int n11), some vrests34, some vorders49, some vdue110, some (.int at136), some (.int a146), some vroots191, some vtold201, some v, none, none, none, none]) (fun _ => rfl) w223 p224 (Ev.eta (e_call (E := E0) (fm := fm_root_paper) (R := (rT K (aCons rS (aOne rI)))) (a_one (e_var (R := rI) rfl rfl)))) hm226 ?_
              intro paper227 vpaper235 S228 H229 s230 w231 p232 g234 rpaper236 hm233
              have rrests35 := Mo.mo g234.s rrests35
              have rorders50 := Mo.mo g234.s rorders50
              have rdue111 := Mo.mo g234.s rdue111
              have rroots192 := Mo.mo g234.s rroots192
              have rtold202 := Mo.mo g234.s rtold202
              refine q_if w231 p232 (t_or (t_Test (e_ne (e_eq (e_ixC (n := 0) (mB := fun k => k 0) (A := (aCons rS (aOne rI))) (R := rS) (f := fun a => a.1) (e_var rfl rpaper236) rfl (fun a vs S h => by obtain ⟨_, _, rfl, h0, ⟨_, rfl, h1⟩⟩ := h; exact ⟨_, rfl, h0⟩)) e_cS) (e_neQ (q_L (qs_all q_I)) (by decide) (Ev.Q (e_var rfl rroots192) (d_L (ds_all d_I))) (EvR.Q (EvL.rd (l_lstL (a_nilL (R := rI)))) (ds_all d_I))))) (t_Test (e_notN (Ev.eta (e_call (E := E0) (fm := fm_root_paper_error) (R := (rO (rU rS (rT K (aCons rS (aOne rI)))))) (a_cons (e_var (R := rI) rfl rfl) (a_one (e_var rfl rpaper236)))))))) hm233 ?_ ?_
              · intro S237 H238 s239 w240 p241 g242 hm243
                have rrests35 := Mo.mo g242.s rrests35
                have rorders50 := Mo.mo g242.s rorders50
                have rdue111 := Mo.mo g242.s rdue111
                have rroots192 := Mo.mo g242.s rroots192
                have rtold202 := Mo.mo g242.s rtold202
                have rpaper236 := Mo.mo g242.s rpaper236
                refine q_ret w240 p241 e_cB hm243 ?_
                intro r251 v252 S244 H245 s246 w247 p248 g250 rr253 hm249
                cases run_of_pure hm249
                exact fin _ ⟨S244, w247.g, p248, rr253⟩
              · intro S254 H255 s256 w257 p258 g259 hm260
                have rrests35 := Mo.mo g259.s rrests35
                have rorders50 := Mo.mo g259.s rorders50
                have rdue111 := Mo.mo g259.s rdue111
                have rroots192 := Mo.mo g259.s rroots192
                have rtold202 := Mo.mo g259.s rtold202
                have rpaper236 := Mo.mo g259.s rpaper236
                refine nx_done ?_
                refine q_if w257 p258 (t_Test (e_neQ (q_L (qs_all q_I)) (by decide) (Ev.Q (e_var rfl rroots192) (d_L (ds_all d_I))) (EvR.Q (EvL.rd (l_lstL (a_nilL (R := rI)))) (ds_all d_I)))) hm260 ?_ ?_
                · intro S261 H262 s263 w264 p265 g266 hm267
                  have rrests35 := Mo.mo g266.s rrests35
                  have rorders50 := Mo.mo g266.s rorders50
                  have rdue111 := Mo.mo g266.s rdue111
                  have rroots192 := Mo.mo g266.s rroots192
                  have rtold202 := Mo.mo g266.s rtold202
                  have rpaper236 := Mo.mo g266.s rpaper236
                  refine q_if w264 p265 (t_or (t_Test (e_ne (Ev.eta (e_call (E := E0) (fm := fm_least_root) (R := rI) (a_one (e_var (R := rI) rfl rfl)))) (e_ixL (Ev.rd (e_var rfl rroots192)) e_cI))) (t_Test (e_ne (c_lenL (Ev.rd (e_var rfl rroots192))) (Ev.eta (e_call (E := E0) (fm := fm_coprime_count) (R := rI) (a_one (Ev.eta (e_call (E := E0) (fm := fm_coprime_count) (R := rI) (a_one (e_var (R := rI) rfl rfl)))))))))) hm267 ?_ ?_
                  · intro S268 H269 s270 w271 p272 g273 hm274
                    have rrests35 := Mo.mo g273.s rrests35
                    have rorders50 := Mo.mo g273.s rorders50
                    have rdue111 := Mo.mo g273.s rdue111
                    have rroots192 := Mo.mo g273.s rroots192
                    have rtold202 := Mo.mo g273.s rtold202
                    have rpaper236 := Mo.mo g273.s rpaper236
                    refine q_ret w271 p272 e_cB hm274 ?_
                    intro r282 v283 S275 H276 s277 w278 p279 g281 rr284 hm280
                    cases run_of_pure hm280
                    exact fin _ ⟨S275, w278.g, p279, rr284⟩
                  · intro S285 H286 s287 w288 p289 g290 hm291
                    have rrests35 := Mo.mo g290.s rrests35
                    have rorders50 := Mo.mo g290.s rorders50
                    have rdue111 := Mo.mo g290.s rdue111
                    have rroots192 := Mo.mo g290.s rroots192
                    have rtold202 := Mo.mo g290.s rtold202
                    have rpaper236 := Mo.mo g290.s rpaper236
                    refine nx_done ?_
                    refine par_go ?_
                    refine x_ev w288 p289 (Ev.eta (e_callP (F := fun i => potPt i) (i := i) (A := fun i => (aCons (rP i) (aOne (rL (aAll rI))))) (E := E0) (fm := fm__law_one) (R := rI) (a_cons (e_var (R := rP i) (a := ()) rfl rfl) (a_one (e_var rfl rroots192))))) hm291 ?_
                    intro root292 vroot300 S293 H294 s295 w296 p297 g299 rroot301 hm298
                    cases (show vroot300 = .int root292 from rroot301)
                    have rrests35 := Mo.mo g299.s rrests35
                    have rorders50 := Mo.mo g299.s rorders50
                    have rdue111 := Mo.mo g299.s rdue111
                    have rroots192 := Mo.mo g299.s rroots192
                    have rtold202 := Mo.mo g299.s rtold202
                    have rpaper236 := Mo.mo g299.s rpaper236
                    refine x_ev w296 p297 (Ev.eta (e_callP (F := fun i => potPt i) (i := i) (A := fun i => (aCons (rP i) (aOne (rL (aAll rI))))) (E := E0) (fm := fm__law_one) (R := rI) (a_cons (e_var (R := rP i) (a := ()) rfl rfl) (a_one (e_var rfl rrests35))))) hm298 ?_
                    intro b302 vb310 S303 H304 s305 w306 p307 g309 rb311 hm308
                    cases (show vb310 = .int b302 from rb311)
                    have rrests35 := Mo.mo g309.s rrests35
                    have rorders50 := Mo.mo g309.s rorders50
                    have rdue111 := Mo.mo g309.s rdue111
                    have rroots192 := Mo.mo g309.s rroots192
                    have rtold202 := Mo.mo g309.s rtold202
                    have rpaper236 := Mo.mo g309.s rpaper236
                    refine par_end [some v_script, some (.ref i.a), some (.int n11), some vrests34, some vorders49, some vdue110, some (.int at136), some (.int a146), some vroots191, some vtold201, some vpaper235, some (.int root292), some (.int b302), none, none] rfl ?_
                    refine par_go ?_
                    refine x_ev w306 p307 (e_mod (c_int e_cI) (e_var (R := rI) rfl rfl)) hm308 ?_
                    intro own312 vown320 S313 H314 s315 w316 p317 g319 rown321 hm318
                    cases (show vown320 = .int own312 from rown321)
                    have rrests35 := Mo.mo g319.s rrests35
                    have rorders50 := Mo.mo g319.s rorders50
                    have rdue111 := Mo.mo g319.s rdue111
                    have rroots192 := Mo.mo g319.s rroots192
                    have rtold202 := Mo.mo g319.s rtold202
                    have rpaper236 := Mo.mo g319.s rpaper236
                    refine x_ev w316 p317 e_cI hm318 ?_
                    intro k322 vk330 S323 H324 s325 w326 p327 g329 rk331 hm328
                    cases (show vk330 = .int k322 from rk331)
                    have rrests35 := Mo.mo g329.s rrests35
                    have rorders50 := Mo.mo g329.s rorders50
                    have rdue111 := Mo.mo g329.s rdue111
                    have rroots192 := Mo.mo g329.s rroots192
                    have rtold202 := Mo.mo g329.s rtold202
                    have rpaper236 := Mo.mo g329.s rpaper236
                    refine par_end [some v_script, some (.ref i.a), some (.int n11), some vrests34, some vorders49, some vdue110, some (.int at136), some (.int a146), some vroots191, some vtold201, some vpaper235, some (.int root292), some (.int b302), some (.int own312), some (.int k322)] rfl ?_
                    refine q_wh (p := (potPt i)) (fun st332 σ S' H' s' => σ = [some v_script, some (.ref i.a), some (.int n11), some vrests34, some vorders49, some vdue110, some (.int at136), some (.int a146), some vroots191, some vtold201, some vpaper235, some (.int root292), some (.int b302), some (.int st332.1), some (.int st332.2)] ∧ Wd (potPt i) S0 H0 S' H' [] ∧ PotAt (potPt i) s' S' H' ∧ Ex S323 S') ⟨rfl, w326, p327, Ex.rf⟩ hm328 ?_ ?_ ?_ ?_
                    · rintro st332 _ S338 H339 s340 ⟨rfl, w335, p336, eb337⟩
                      have rrests35 := Mo.mo eb337 rrests35
                      have rorders50 := Mo.mo eb337 rorders50
                      have rdue111 := Mo.mo eb337 rdue111
                      have rroots192 := Mo.mo eb337 rroots192
                      have rtold202 := Mo.mo eb337 rtold202
                      have rpaper236 := Mo.mo eb337 rpaper236
                      exact ⟨p336, w335.i, (t_Test (e_ne (e_var (R := rI) rfl rfl) (e_mod (c_int (e_var (R := rI) rfl rfl)) (e_var (R := rI) rfl rfl))))⟩
                    · rintro st332 _ S344 H345 s346 S347 H348 s349 ⟨rfl, w341, p342, eb343⟩ g350 p351
                      exact ⟨rfl, w341.go g350, p351, eb343.tr g350.s⟩
                    · rintro st332 _ S355 H356 s357 st332_ s2_ D_ ⟨rfl, w352, p353, eb354⟩ hm358 nx359
                      have rrests35 := Mo.mo eb354 rrests35
                      have rorders50 := Mo.mo eb354 rorders50
                      have rdue111 := Mo.mo eb354 rdue111
                      have rroots192 := Mo.mo eb354 rroots192
                      have rtold202 := Mo.mo eb354 rtold202
                      have rpaper236 := Mo.mo eb354 rpaper236
                      refine par_go ?_
                      refine x_ev w352 p353 (e_mod (c_int (e_mul (e_var (R := rI) rfl rfl) (e_var (R := rI) rfl rfl))) (e_var (R := rI) rfl rfl)) hm358 ?_
                      intro own363 vown371 S364 H365 s366 w367 p368 g370 rown372 hm369
                      cases (show vown371 = .int own363 from rown372)
                      have rrests35 := Mo.mo g370.s rrests35
                      have rorders50 := Mo.mo g370.s rorders50
                      have rdue111 := Mo.mo g370.s rdue111
                      have rroots192 := Mo.mo g370.s rroots192
                      have rtold202 := Mo.mo g370.s rtold202
                      have rpaper236 := Mo.mo g370.s rpaper236
                      have eb354 := eb354.tr g370.s
                      refine x_ev w367 p368 (e_add (e_var (R := rI) rfl rfl) e_cI) hm369 ?_
                      intro k373 vk381 S374 H375 s376 w377 p378 g380 rk382 hm379
                      cases (show vk381 = .int k373 from rk382)
                      have rrests35 := Mo.mo g380.s rrests35
                      have rorders50 := Mo.mo g380.s rorders50
                      have rdue111 := Mo.mo g380.s rdue111
                      have rroots192 := Mo.mo g380.s rroots192
                      have rtold202 := Mo.mo g380.s rtold202
                      have rpaper236 := Mo.mo g380.s rpaper236
                      have eb354 := eb354.tr g380.s
                      refine par_end [some v_script, some (.ref i.a), some (.int n11), some vrests34, some vorders49, some vdue110, some (.int at136), some (.int a146), some vroots191, some vtold201, some vpaper235, some (.int root292), some (.int b302), some (.int own363), some (.int k373)] rfl ?_
                      cases run_of_pure hm379
                      exact (nx359 _ _ _ ⟨rfl, w377, p378, eb354⟩).1
                    · rintro st332 _ S386 H387 s388 ⟨rfl, w383, p384, eb385⟩ hm389
                      have rrests35 := Mo.mo eb385 rrests35
                      have rorders50 := Mo.mo eb385 rorders50
                      have rdue111 := Mo.mo eb385 rdue111
                      have rroots192 := Mo.mo eb385 rroots192
                      have rtold202 := Mo.mo eb385 rtold202
                      have rpaper236 := Mo.mo eb385 rpaper236
                      refine q_if w383 p384 (t_Test (e_neW (c_repr (EvL.frz (l_lstL (a_consL (Ev.eta (e_call (E := E0) (fm := fm_root_index) (R := rI) (a_cons (e_var (R := rI) rfl rfl) (a_cons (e_var (R := rI) rfl rfl) (a_one (e_var (R := rI) rfl rfl)))))) (a_consL (e_callK (E := E0) (n := 0) (m' := 3) (ix := [2, 1, 0]) (fm := fm_root_index) (A := (aCons rI (aCons rI (aOne rI)))) (A1 := aNil) (A2 := (aCons rI (aCons rI (aOne rI)))) (R := rI) (fun a b => (b.2.2, b.2.1, b.1)) a_nil (a_cons (e_var (R := rI) rfl rfl) (a_cons (e_var (R := rI) rfl rfl) (a_one (e_var (R := rI) rfl rfl)))) (fun a b vs zs S h1 h2 => by obtain rfl := h1; obtain ⟨_, _, rfl, y0, ⟨_, _, rfl, y1, ⟨_, rfl, y2⟩⟩⟩ := h2; exact ⟨rfl, rfl, ⟨_, _, rfl, y2, ⟨_, _, rfl, y1, ⟨_, rfl, y0⟩⟩⟩⟩)) (a_nilL (R := rI)))))) (d_L (ds_all d_I))) (c_repr (EvL.frz (l_lstL (a_consL (e_var (R := rI) rfl rfl) (a_consL (e_var (R := rI) rfl rfl) (a_nilL (R := rI)))))) (d_L (ds_all d_I))))) hm389 ?_ ?_
                      · intro S390 H391 s392 w393 p394 g395 hm396
                        have rrests35 := Mo.mo g395.s rrests35
                        have rorders50 := Mo.mo g395.s rorders50
                        have rdue111 := Mo.mo g395.s rdue111
                        have rroots192 := Mo.mo g395.s rroots192
                        have rtold202 := Mo.mo g395.s rtold202
                        have rpaper236 := Mo.mo g395.s rpaper236
                        refine q_ret w393 p394 e_cB hm396 ?_
                        intro r404 v405 S397 H398 s399 w400 p401 g403 rr406 hm402
                        cases run_of_pure hm402
                        exact fin _ ⟨S397, w400.g, p401, rr406⟩
                      · intro S407 H408 s409 w410 p411 g412 hm413
                        have rrests35 := Mo.mo g412.s rrests35
                        have rorders50 := Mo.mo g412.s rorders50
                        have rdue111 := Mo.mo g412.s rdue111
                        have rroots192 := Mo.mo g412.s rroots192
                        have rtold202 := Mo.mo g412.s rtold202
                        have rpaper236 := Mo.mo g412.s rpaper236
                        refine nx_done ?_
                        refine nx_done ?_
                        refine q_ret w410 p411 (Ev.eta (e_callP (F := fun i => potPt i) (i := i) (A := fun i => (aOne (rP i))) (E := E0) (fm := fm__law_are_figures_right) (R := rB) (a_one (e_var (R := rP i) (a := ()) rfl rfl)))) hm413 ?_
                        intro r421 v422 S414 H415 s416 w417 p418 g420 rr423 hm419
                        cases run_of_pure hm419
                        exact fin _ ⟨S414, w417.g, p418, rr423⟩
                · intro S439 H440 s441 w442 p443 g444 hm445
                  have rrests35 := Mo.mo g444.s rrests35
                  have rorders50 := Mo.mo g444.s rorders50
                  have rdue111 := Mo.mo g444.s rdue111
                  have rroots192 := Mo.mo g444.s rroots192
                  have rtold202 := Mo.mo g444.s rtold202
                  have rpaper236 := Mo.mo g444.s rpaper236
                  refine nx_done ?_
                  refine q_ret w442 p443 (Ev.eta (e_callP (F := fun i => potPt i) (i := i) (A := fun i => (aOne (rP i))) (E := E0) (fm := fm__law_are_figures_right) (R := rB) (a_one (e_var (R := rP i) (a := ()) rfl rfl)))) hm445 ?_
                  intro r453 v454 S446 H447 s448 w449 p450 g452 rr455 hm451
                  cases run_of_pure hm451
                  exact fin _ ⟨S446, w449.g, p450, rr455⟩
end
end Wk
set_option Elab.async false
set_option maxRecDepth 100000
set_option maxHeartbeats 4000000
set_option linter.all false
/-! P0: numbers: primes, how often they divide, partings -/
namespace Wk
theorem nmod (m p : Nat) : ((m : Int) % (p : Int)) = ((m % p : Nat) : Int) := by push_cast; rfl
theorem ndiv (m p : Nat) : ((m : Int) / (p : Int)) = ((m / p : Nat) : Int) := by push_cast; rfl
theorem mulmod (a b p : Nat) : ((a : Int) * (b : Int)) % (p : Int) = ((a * b % p : Nat) : Int) := by push_cast; rfl
def Pr (n : Nat) : Prop := 2 ≤ n ∧ ∀ d, 2 ≤ d → d < n → n % d ≠ 0
/-- a divisor that is prime -/
theorem pr_div : ∀ n : Nat, 2 ≤ n → ∃ q, Pr q ∧ n % q = 0 := by
  intro n
  induction n using Nat.strongRecOn with
  | _ n ih =>
    intro h2
    by_cases h : Pr n
    · exact ⟨n, h, Nat.mod_self n⟩
    · have : ∃ d, 2 ≤ d ∧ d < n ∧ n % d = 0 := Classical.byContradiction fun hn => h ⟨h2, fun d h1 h3 h4 => hn ⟨d, h1, h3, h4⟩⟩
      obtain ⟨d, h1, h3, h4⟩ := this
      obtain ⟨q, hq, e⟩ := ih d h3 h1
      exact ⟨q, hq, Nat.mod_eq_zero_of_dvd (Nat.dvd_trans (Nat.dvd_of_mod_eq_zero e) (Nat.dvd_of_mod_eq_zero h4))⟩
theorem Pr.pos {p : Nat} (h : Pr p) : 0 < p := by have := h.1; omega
theorem Pr.one {p d : Nat} (h : Pr p) (hd : d ∣ p) : d = 1 ∨ d = p := by
  have h0 : 0 < d := Nat.pos_of_dvd_of_pos hd h.pos
  have h1 : d ≤ p := Nat.le_of_dvd h.pos hd
  by_cases e : d = 1
  · exact .inl e
  · by_cases e2 : d = p
    · exact .inr e2
    · exact absurd (Nat.mod_eq_zero_of_dvd hd) (h.2 d (by omega) (by omega))
theorem Pr.cop {p a : Nat} (h : Pr p) (ha : ¬ p ∣ a) : Nat.Coprime p a := by
  rcases h.one (Nat.gcd_dvd_left p a) with e | e
  · exact e
  · exact absurd (e ▸ Nat.gcd_dvd_right p a) ha
theorem Pr.mul {p a b : Nat} (h : Pr p) (hd : p ∣ a * b) : p ∣ a ∨ p ∣ b := by
  by_cases ha : p ∣ a
  · exact .inl ha
  · exact .inr ((h.cop ha).dvd_of_dvd_mul_left hd)
theorem Pr.pow {p a : Nat} (h : Pr p) : ∀ {k : Nat}, p ∣ a ^ k → p ∣ a
  | 0, hd => by
    rw [Nat.pow_zero] at hd
    have := Nat.le_of_dvd (by decide) hd
    have := h.1
    omega
  | k + 1, hd => by
    rw [Nat.pow_succ] at hd
    rcases h.mul hd with e | e
    · exact h.pow e
    · exact e
/-- two primes, one a divisor of the other's power -/
theorem Pr.eq {p q : Nat} (hp : Pr p) (hq : Pr q) (h : p ∣ q) : p = q := by
  rcases hq.one h with e | e
  · have := hp.1; omega
  · exact e

/-! ### how often -/
def vp (p n : Nat) : Nat := if h : n = 0 ∨ p < 2 ∨ n % p ≠ 0 then 0 else vp p (n / p) + 1
termination_by n
decreasing_by exact Nat.div_lt_self (by omega) (by omega)
theorem vp_no {p n : Nat} (h : n % p ≠ 0) : vp p n = 0 := by rw [vp, dif_pos (.inr (.inr h))]
theorem vp_s {p n : Nat} (hn : 0 < n) (hp : 2 ≤ p) (h : n % p = 0) : vp p n = vp p (n / p) + 1 := by rw [vp, dif_neg (by omega)]
theorem vp_dvd {p : Nat} (hp : 2 ≤ p) : ∀ {n : Nat}, 0 < n → p ^ vp p n ∣ n := by
  intro n
  induction n using Nat.strongRecOn with
  | _ n ih =>
    intro hn
    by_cases h : n % p = 0
    · rw [vp_s hn hp h]
      have hd : n / p * p = n := Nat.div_mul_cancel (Nat.dvd_of_mod_eq_zero h)
      have h0 : 0 < n / p := Nat.div_pos (Nat.le_of_dvd hn (Nat.dvd_of_mod_eq_zero h)) (by omega)
      have := ih (n / p) (Nat.div_lt_self hn (by omega)) h0
      rw [Nat.pow_succ]
      conv => rhs; rw [← hd]
      exact Nat.mul_dvd_mul_right this p
    · rw [vp_no h, Nat.pow_zero]; exact Nat.one_dvd _
theorem vp_eq {p : Nat} (hp : 2 ≤ p) : ∀ {k m : Nat}, m % p ≠ 0 → vp p (p ^ k * m) = k
  | 0, m, h => by rw [Nat.pow_zero, Nat.one_mul, vp_no h]
  | k + 1, m, h => by
    have hm : 0 < m := Nat.pos_of_ne_zero (by rintro rfl; simp at h)
    have e : p ^ (k + 1) * m = p * (p ^ k * m) := by rw [Nat.pow_succ, Nat.mul_comm (p ^ k) p, Nat.mul_assoc]
    rw [e, vp_s (Nat.mul_pos (by omega) (Nat.mul_pos (Nat.pow_pos (by omega)) hm)) hp (Nat.mul_mod_right p _), Nat.mul_div_cancel_left _ (by omega), vp_eq hp h]
theorem vp_rest {p : Nat} (hp : 2 ≤ p) : ∀ {n : Nat}, 0 < n → n / p ^ vp p n % p ≠ 0 := by
  intro n
  induction n using Nat.strongRecOn with
  | _ n ih =>
    intro hn
    by_cases h : n % p = 0
    · rw [vp_s hn hp h, Nat.pow_succ, Nat.mul_comm, ← Nat.div_div_eq_div_mul]
      exact ih (n / p) (Nat.div_lt_self hn (by omega)) (Nat.div_pos (Nat.le_of_dvd hn (Nat.dvd_of_mod_eq_zero h)) (by omega))
    · rw [vp_no h, Nat.pow_zero, Nat.div_one]; exact h
theorem vp_split {p n : Nat} (hp : 2 ≤ p) (hn : 0 < n) : n = p ^ vp p n * (n / p ^ vp p n) := (Nat.mul_div_cancel' (vp_dvd hp hn)).symm
theorem vp_mul {p a b : Nat} (h : Pr p) (ha : 0 < a) (hb : 0 < b) : vp p (a * b) = vp p a + vp p b := by
  have e : a * b = p ^ (vp p a + vp p b) * ((a / p ^ vp p a) * (b / p ^ vp p b)) := by
    conv => lhs; rw [vp_split h.1 ha, vp_split h.1 hb]
    rw [Nat.pow_add]
    simp only [Nat.mul_assoc, Nat.mul_comm, Nat.mul_left_comm]
  conv => lhs; rw [e]
  refine vp_eq h.1 fun z => ?_
  rcases h.mul (Nat.dvd_of_mod_eq_zero z) with y | y
  · exact vp_rest h.1 ha (Nat.mod_eq_zero_of_dvd y)
  · exact vp_rest h.1 hb (Nat.mod_eq_zero_of_dvd y)
theorem vp_one {p : Nat} (hp : 2 ≤ p) : vp p 1 = 0 := vp_no (by rw [Nat.mod_eq_of_lt (by omega)]; decide)
theorem vp_self {p : Nat} (hp : 2 ≤ p) : vp p p = 1 := by
  have := vp_eq (k := 1) (m := 1) hp (by rw [Nat.mod_eq_of_lt (by omega)]; decide)
  rwa [Nat.pow_one, Nat.mul_one] at this
theorem vp_pos {p n : Nat} (hn : 0 < n) (hp : 2 ≤ p) (h : p ∣ n) : 0 < vp p n := by rw [vp_s hn hp (Nat.mod_eq_zero_of_dvd h)]; omega
theorem vp_lt {p n : Nat} (hp : 2 ≤ p) (hn : 0 < n) : vp p n < n := by
  have h1 := Nat.le_of_dvd hn (vp_dvd hp hn)
  have h2 : vp p n < 2 ^ vp p n := Nat.lt_two_pow_self
  have h3 : 2 ^ vp p n ≤ p ^ vp p n := Nat.pow_le_pow_left hp _
  omega

/-! ### partings -/
/-- the ascending list of all primes that divide, with how often -/
structure PF (n : Nat) (l : List (Nat × Nat)) : Prop where
  s : l.Pairwise (fun a b => a.1 < b.1)
  m : ∀ q k, (q, k) ∈ l ↔ Pr q ∧ q ∣ n ∧ k = vp q n
theorem sorted_eq : ∀ {l r : List (Nat × Nat)}, l.Pairwise (fun a b => a.1 < b.1) → r.Pairwise (fun a b => a.1 < b.1) → (∀ x, x ∈ l ↔ x ∈ r) → l = r
  | [], [], _, _, _ => rfl
  | [], y :: r, _, _, h => absurd ((h y).mpr (List.mem_cons_self ..)) (by simp)
  | x :: l, [], _, _, h => absurd ((h x).mp (List.mem_cons_self ..)) (by simp)
  | x :: l, y :: r, h1, h2, h => by
    have a1 := List.pairwise_cons.mp h1
    have a2 := List.pairwise_cons.mp h2
    have e : x = y := by
      rcases List.mem_cons.mp ((h x).mp (List.mem_cons_self ..)) with z | z
      · exact z
      · rcases List.mem_cons.mp ((h y).mpr (List.mem_cons_self ..)) with w | w
        · exact w.symm
        · have b1 := a2.1 x z
          have b2 := a1.1 y w
          omega
    subst e
    congr 1
    refine sorted_eq a1.2 a2.2 fun z => ?_
    constructor
    · intro hz
      rcases List.mem_cons.mp ((h z).mp (List.mem_cons_of_mem _ hz)) with w | w
      · have := a1.1 z hz
        rw [w] at this; omega
      · exact w
    · intro hz
      rcases List.mem_cons.mp ((h z).mpr (List.mem_cons_of_mem _ hz)) with w | w
      · have := a2.1 z hz
        rw [w] at this; omega
      · exact w
theorem PF.uniq {n : Nat} {l r : List (Nat × Nat)} (h : PF n l) (g : PF n r) : l = r := sorted_eq h.s g.s fun ⟨q, k⟩ => (h.m q k).trans (g.m q k).symm
theorem PF.one : PF 1 [] := ⟨List.Pairwise.nil, fun q k => by
  constructor
  · intro h; exact nomatch h
  · rintro ⟨h1, h2, _⟩
    have := Nat.le_of_dvd (by decide) h2
    have := h1.1
    omega⟩
theorem PF.prime {p : Nat} (h : Pr p) : PF p [(p, 1)] := ⟨List.pairwise_singleton .., fun q k => by
  rw [List.mem_singleton]
  constructor
  · rintro e
    cases e
    exact ⟨h, Nat.dvd_refl _, (vp_self h.1).symm⟩
  · rintro ⟨h1, h2, rfl⟩
    have e := h1.eq h h2
    subst e
    rw [vp_self h.1]⟩
/-- no lesser prime divides it -/
def Inv (p n : Nat) : Prop := ∀ q, Pr q → q < p → n % q ≠ 0
theorem inv2 (n : Nat) : Inv 2 n := fun q h hq => by have := h.1; omega
theorem Inv.prime {p n : Nat} (h : Inv p n) (hp : 2 ≤ p) (hd : n % p = 0) : Pr p := by
  obtain ⟨q, hq, e⟩ := pr_div p hp
  have hqp := Nat.le_of_dvd (by omega) (Nat.dvd_of_mod_eq_zero e)
  by_cases z : q = p
  · exact z ▸ hq
  · exact absurd (Nat.mod_eq_zero_of_dvd (Nat.dvd_trans (Nat.dvd_of_mod_eq_zero e) (Nat.dvd_of_mod_eq_zero hd))) (h q hq (by omega))
theorem Inv.no {p n : Nat} (h : Inv p n) (hd : n % p ≠ 0) : Inv (p + 1) n := fun q hq hlt => by
  by_cases z : q = p
  · exact z ▸ hd
  · exact h q hq (by omega)
theorem Inv.skip {p n : Nat} (h : Inv p n) (hp : ¬ Pr p) : Inv (p + 1) n := fun q hq hlt => by
  by_cases z : q = p
  · exact absurd (z ▸ hq) hp
  · exact h q hq (by omega)
theorem Inv.dvd {p n m : Nat} (h : Inv p n) (hd : m ∣ n) : Inv p m := fun q hq hlt e => h q hq hlt (Nat.mod_eq_zero_of_dvd (Nat.dvd_trans (Nat.dvd_of_mod_eq_zero e) hd))
theorem rest_dvd {p n : Nat} (hp : 2 ≤ p) (hn : 0 < n) : n / p ^ vp p n ∣ n := ⟨p ^ vp p n, by rw [Nat.mul_comm]; exact vp_split hp hn⟩
theorem rest_pos {p n : Nat} (hp : 2 ≤ p) (hn : 0 < n) : 0 < n / p ^ vp p n := Nat.pos_of_dvd_of_pos (rest_dvd hp hn) hn
theorem Inv.out {p n : Nat} (h : Inv p n) (hp : 2 ≤ p) (hn : 0 < n) : Inv (p + 1) (n / p ^ vp p n) := (h.dvd (rest_dvd hp hn)).no (vp_rest hp hn)
/-- what is left is a prime -/
theorem Inv.last {p n : Nat} (h : Inv p n) (h1 : 1 < n) (hp : n < p * p) : Pr n := by
  obtain ⟨q, hq, e⟩ := pr_div n h1
  have hqd := Nat.dvd_of_mod_eq_zero e
  obtain ⟨c, hc⟩ := hqd
  by_cases hc1 : c = 1
  · rw [hc, hc1, Nat.mul_one]; exact hq
  · exfalso
    have hc0 : 0 < c := Nat.pos_of_ne_zero (by rintro rfl; omega)
    have hqp : p ≤ q := Nat.le_of_not_lt fun z => h q hq z e
    obtain ⟨r, hr, e2⟩ := pr_div c (by omega)
    have hrp : p ≤ r := Nat.le_of_not_lt fun z => h r hr z (Nat.mod_eq_zero_of_dvd (Nat.dvd_trans (Nat.dvd_of_mod_eq_zero e2) ⟨q, by rw [hc, Nat.mul_comm]⟩))
    have hrc := Nat.le_of_dvd hc0 (Nat.dvd_of_mod_eq_zero e2)
    have : p * p ≤ q * c := Nat.mul_le_mul hqp (by omega)
    omega
theorem PF.cons {p n : Nat} {l : List (Nat × Nat)} (hi : Inv p n) (hp : 2 ≤ p) (hn : 0 < n) (hd : n % p = 0) (h : PF (n / p ^ vp p n) l) : PF n ((p, vp p n) :: l) := by
  have hpr := hi.prime hp hd
  have hr0 := rest_pos hp hn
  have key : ∀ q, Pr q → q ≠ p → vp q (n / p ^ vp p n) = vp q n := fun q hq hne => by
    conv => rhs; rw [vp_split hp hn]
    rw [vp_mul hq (Nat.pow_pos (by omega)) hr0, vp_no (n := p ^ vp p n) (fun e => hne (hq.eq hpr (hq.pow (Nat.dvd_of_mod_eq_zero e)))), Nat.zero_add]
  refine ⟨List.pairwise_cons.mpr ⟨fun ⟨q, k⟩ hm => ?_, h.s⟩, fun q k => ?_⟩
  · obtain ⟨h1, h2, _⟩ := (h.m q k).mp hm
    show p < q
    have := hi.out hp hn
    exact Nat.lt_of_not_le fun z => this q h1 (by omega) (Nat.mod_eq_zero_of_dvd h2)
  · rw [List.mem_cons, h.m]
    constructor
    · rintro (e | ⟨h1, h2, h3⟩)
      · cases e
        exact ⟨hpr, Nat.dvd_of_mod_eq_zero hd, rfl⟩
      · have hne : q ≠ p := by rintro rfl; exact vp_rest hp hn (Nat.mod_eq_zero_of_dvd h2)
        exact ⟨h1, Nat.dvd_trans h2 (rest_dvd hp hn), by rw [h3, key q h1 hne]⟩
    · rintro ⟨h1, h2, h3⟩
      by_cases e : q = p
      · subst e; subst h3; exact .inl rfl
      · refine .inr ⟨h1, ?_, by rw [h3, key q h1 e]⟩
        rw [vp_split hp hn] at h2
        rcases h1.mul h2 with z | z
        · exact absurd (h1.eq hpr (h1.pow z)) e
        · exact z

/-! ### a parting that can be asked -/
def out (p : Nat) : Nat → Nat → Nat × Nat
  | 0, n => (0, n)
  | f + 1, n => if n % p = 0 then ((out p f (n / p)).1 + 1, (out p f (n / p)).2) else (0, n)
theorem out_eq {p : Nat} (hp : 2 ≤ p) : ∀ (f n : Nat), 0 < n → n < 2 ^ f → out p f n = (vp p n, n / p ^ vp p n)
  | 0, n, hn, h => by rw [Nat.pow_zero] at h; omega
  | f + 1, n, hn, h => by
    rw [out]
    by_cases z : n % p = 0
    · have h0 : 0 < n / p := Nat.div_pos (Nat.le_of_dvd hn (Nat.dvd_of_mod_eq_zero z)) (by omega)
      have h1 : n / p < 2 ^ f := by
        have : n / p ≤ n / 2 := Nat.div_le_div_left hp (by decide)
        rw [Nat.pow_succ] at h
        omega
      rw [if_pos z, out_eq hp f (n / p) h0 h1, vp_s hn hp z]
      show (_, _) = (_, _)
      rw [Nat.pow_succ, Nat.mul_comm (p ^ _) p, ← Nat.div_div_eq_div_mul]
    · rw [if_neg z, vp_no z, Nat.pow_zero, Nat.div_one]
def pfc : Nat → Nat → Nat → List (Nat × Nat)
  | 0, _, _ => []
  | f + 1, p, n => if n < p * p then (if n ≤ 1 then [] else [(n, 1)]) else if n % p = 0 then (p, (out p 64 n).1) :: pfc f (p + 1) (out p 64 n).2 else pfc f (p + 1) n
def pf (n : Nat) : List (Nat × Nat) := pfc (n + 1) 2 n
theorem pfc_ok : ∀ (f p n : Nat), 2 ≤ p → 0 < n → n < 2 ^ 64 → n < (p + f) * (p + f) → Inv p n → PF n (pfc (f + 1) p n) := by
  intro f
  induction f with
  | zero =>
    intro p n hp hn h64 hlt hi
    have hlt : n < p * p := by simpa using hlt
    rw [pfc, if_pos hlt]
    by_cases z1 : n ≤ 1
    · rw [if_pos z1, show n = 1 by omega]; exact PF.one
    · rw [if_neg z1]; exact PF.prime (hi.last (by omega) hlt)
  | succ f ih =>
    intro p n hp hn h64 hlt hi
    rw [pfc]
    by_cases z : n < p * p
    · rw [if_pos z]
      by_cases z1 : n ≤ 1
      · rw [if_pos z1, show n = 1 by omega]; exact PF.one
      · rw [if_neg z1]; exact PF.prime (hi.last (by omega) z)
    · rw [if_neg z]
      have e : p + (f + 1) = p + 1 + f := by omega
      rw [e] at hlt
      by_cases y : n % p = 0
      · rw [if_pos y, out_eq hp 64 n hn h64]
        have hr := Nat.le_of_dvd hn (rest_dvd (p := p) hp hn)
        exact PF.cons hi hp hn y (ih (p + 1) _ (by omega) (rest_pos hp hn) (by omega) (by omega) (hi.out hp hn))
      · rw [if_neg y]
        exact ih (p + 1) n (by omega) hn h64 hlt (hi.no y)
theorem pf_ok {n : Nat} (hn : 0 < n) (h : n < 2 ^ 64) : PF n (pf n) := pfc_ok n 2 n (by decide) hn h (by
  have : n ≤ (2 + n) * 1 := by omega
  have : (2 + n) * 1 < (2 + n) * (2 + n) := Nat.mul_lt_mul_of_pos_left (by omega) (by omega)
  omega) (inv2 n)
def prB (n : Nat) : Bool := decide (pf n = [(n, 1)])
theorem prB_iff {n : Nat} (hn : 0 < n) (h : n < 2 ^ 64) : prB n = true ↔ Pr n := by
  unfold prB
  rw [decide_eq_true_iff]
  constructor
  · intro e
    have := (pf_ok hn h).m n 1
    rw [e] at this
    exact (this.mp (List.mem_singleton.mpr rfl)).1
  · intro hp
    exact (pf_ok hn h).uniq (PF.prime hp)
/-! ### what a parting's primes make -/
theorem PF.low {n q k : Nat} {l : List (Nat × Nat)} (h : PF n l) (hn : 0 < n) (hm : (q, k) ∈ l) : 2 ≤ q ∧ q ≤ n ∧ 1 ≤ k ∧ k < n := by
  obtain ⟨h1, h2, h3⟩ := (h.m q k).mp hm
  have a := Nat.le_of_dvd hn h2
  have b := vp_pos hn h1.1 h2
  have c := vp_lt h1.1 hn
  exact ⟨h1.1, a, by omega, by omega⟩
/-- a parting's head and its rest -/
theorem PF.tail {n p k : Nat} {l : List (Nat × Nat)} (h : PF n ((p, k) :: l)) (hn : 0 < n) : Pr p ∧ k = vp p n ∧ n = p ^ k * (n / p ^ k) ∧ PF (n / p ^ k) l ∧ 0 < n / p ^ k ∧ n / p ^ k % p ≠ 0 ∧ 0 < k := by
  obtain ⟨h1, h2, h3⟩ := (h.m p k).mp (List.mem_cons_self ..)
  have hs := List.pairwise_cons.mp h.s
  have hr0 := rest_pos h1.1 hn
  have hpos := vp_pos hn h1.1 h2
  subst h3
  refine ⟨h1, rfl, vp_split h1.1 hn, ⟨hs.2, fun q k => ?_⟩, hr0, vp_rest h1.1 hn, hpos⟩
  have key : ∀ q, Pr q → q ≠ p → vp q (n / p ^ vp p n) = vp q n := fun q hq hne => by
    conv => rhs; rw [vp_split h1.1 hn]
    rw [vp_mul hq (Nat.pow_pos h1.pos) hr0, vp_no (n := p ^ vp p n) (fun e => hne (hq.eq h1 (hq.pow (Nat.dvd_of_mod_eq_zero e)))), Nat.zero_add]
  constructor
  · intro hm
    have hlt := hs.1 _ hm
    obtain ⟨a1, a2, a3⟩ := (h.m q k).mp (List.mem_cons_of_mem _ hm)
    have hne : q ≠ p := by simp at hlt; omega
    refine ⟨a1, ?_, by rw [a3, key q a1 hne]⟩
    rw [vp_split h1.1 hn] at a2
    rcases a1.mul a2 with z | z
    · exact absurd (a1.eq h1 (a1.pow z)) hne
    · exact z
  · rintro ⟨a1, a2, a3⟩
    have hne : q ≠ p := by rintro rfl; exact vp_rest h1.1 hn (Nat.mod_eq_zero_of_dvd a2)
    rcases List.mem_cons.mp ((h.m q k).mpr ⟨a1, Nat.dvd_trans a2 (rest_dvd h1.1 hn), by rw [a3, key q a1 hne]⟩) with z | z
    · cases z; exact absurd rfl hne
    · exact z
def prd (l : List (Nat × Nat)) : Nat := l.foldr (fun y a => y.1 ^ y.2 * a) 1
theorem PF.prd : ∀ {l : List (Nat × Nat)} {n : Nat}, 0 < n → PF n l → prd l = n
  | [], n, hn, h => by
    show 1 = n
    by_cases z : n = 1
    · exact z.symm
    · obtain ⟨q, hq, e⟩ := pr_div n (by omega)
      exact absurd ((h.m q (vp q n)).mpr ⟨hq, Nat.dvd_of_mod_eq_zero e, rfl⟩) (by simp)
  | (p, k) :: l, n, hn, h => by
    obtain ⟨_, _, h3, h4, h5, _⟩ := h.tail hn
    show p ^ k * Wk.prd l = n
    rw [PF.prd h5 h4]
    exact h3.symm
theorem PF.len {n : Nat} {l : List (Nat × Nat)} (hn : 0 < n) (h : PF n l) : 2 ^ l.length ≤ n := by
  rw [← h.prd hn]
  have : ∀ r : List (Nat × Nat), (∀ y ∈ r, 2 ≤ y.1 ∧ 1 ≤ y.2) → 2 ^ r.length ≤ Wk.prd r := by
    intro r
    induction r with
    | nil => intro _; exact Nat.le_refl _
    | cons y r ih =>
      intro hy
      have h1 := hy y (List.mem_cons_self ..)
      have h2 := ih fun z hz => hy z (List.mem_cons_of_mem _ hz)
      show 2 ^ (r.length + 1) ≤ y.1 ^ y.2 * Wk.prd r
      rw [Nat.pow_succ, Nat.mul_comm]
      refine Nat.mul_le_mul ?_ h2
      have : y.1 ^ 1 ≤ y.1 ^ y.2 := Nat.pow_le_pow_right (by omega) h1.2
      rw [Nat.pow_one] at this
      omega
  exact this l fun ⟨q, k⟩ hm => by have := h.low hn hm; exact ⟨this.1, this.2.2.1⟩
end Wk
set_option Elab.async false
set_option maxRecDepth 100000
set_option maxHeartbeats 4000000
set_option linter.all false
/-! P1: powers and what they leave: Euler, orders, strong passes -/
namespace Wk
theorem mod_dvd {a b n : Nat} (h : a % n = b % n) (hb : b ≤ a) : n ∣ a - b := Nat.dvd_of_mod_eq_zero (Nat.sub_mod_eq_zero_of_mod_eq h)
theorem mod_of_dvd {a b n : Nat} (h : n ∣ a - b) (hb : b ≤ a) : a % n = b % n := by
  obtain ⟨c, hc⟩ := h
  have e : a = b + n * c := by omega
  rw [e, Nat.add_mul_mod_self_left]
theorem mul_cong {a b c d n : Nat} (h : a % n = b % n) (g : c % n = d % n) : a * c % n = b * d % n := by rw [Nat.mul_mod, h, g, ← Nat.mul_mod]
theorem pow_cong {a b n : Nat} (h : a % n = b % n) (k : Nat) : a ^ k % n = b ^ k % n := by rw [Nat.pow_mod, h, ← Nat.pow_mod]
/-- one factor is cut -/
theorem cut_cong {x y n : Nat} (hx : Nat.gcd x n = 1) (h : x * y % n = x % n) : y % n = 1 % n := by
  by_cases hy : y = 0
  · subst hy
    rw [Nat.mul_zero, Nat.zero_mod] at h
    have : n ∣ x := Nat.dvd_of_mod_eq_zero h.symm
    have := Nat.gcd_eq_right this
    rw [hx] at this
    rw [← this]
  · have hle : x * 1 ≤ x * y := Nat.mul_le_mul_left x (by omega)
    have h1 : x * y % n = x * 1 % n := by rw [Nat.mul_one]; exact h
    have h2 := mod_dvd h1 hle
    rw [← Nat.mul_sub] at h2
    have hc : Nat.Coprime n x := by rw [Nat.Coprime, Nat.gcd_comm]; exact hx
    exact mod_of_dvd (hc.dvd_of_dvd_mul_left h2) (by omega)

/-! ### arrangements -/
theorem perm_of : ∀ {l r : List Nat}, l.Nodup → r.Nodup → (∀ x ∈ l, x ∈ r) → r.length ≤ l.length → l.Perm r
  | [], r, _, _, _, h => by
    have : r = [] := List.length_eq_zero_iff.mp (by simpa using h)
    rw [this]
  | x :: l, r, h1, h2, h3, h4 => by
    have a := List.nodup_cons.mp h1
    have hx : x ∈ r := h3 x (List.mem_cons_self ..)
    have hp := List.perm_cons_erase hx
    have hl : (r.erase x).length = r.length - 1 := List.length_erase_of_mem hx
    refine (List.Perm.cons x (perm_of a.2 (h2.erase x) (fun y hy => ?_) ?_)).trans hp.symm
    · exact (List.mem_erase_of_ne (by rintro rfl; exact a.1 hy)).mpr (h3 y (List.mem_cons_of_mem _ hy))
    · rw [List.length_cons] at h4; omega
def pro (l : List Nat) : Nat := l.foldr (· * ·) 1
theorem pro_perm {l r : List Nat} (h : l.Perm r) : pro l = pro r := by
  induction h with
  | nil => rfl
  | cons x _ ih => show x * pro _ = x * pro _; rw [ih]
  | swap x y l => show y * (x * pro l) = x * (y * pro l); rw [Nat.mul_left_comm]
  | trans _ _ a b => exact a.trans b
theorem pro_map {a n : Nat} : ∀ l : List Nat, pro (l.map fun x => a * x % n) % n = a ^ l.length * pro l % n
  | [] => by show 1 % n = a ^ 0 * 1 % n; rw [Nat.pow_zero]
  | x :: l => by
    show (a * x % n) * pro (l.map fun x => a * x % n) % n = a ^ (l.length + 1) * (x * pro l) % n
    have h1 : (a * x % n) % n = (a * x) % n := Nat.mod_mod _ _
    rw [mul_cong h1 (pro_map l), Nat.pow_succ]
    congr 1
    simp only [Nat.mul_comm, Nat.mul_left_comm, Nat.mul_assoc]
/-- the rests without a divisor in common -/
def uni (n : Nat) : List Nat := (List.range n).filter fun x => decide (Nat.gcd x n = 1)
theorem mem_uni {n x : Nat} : x ∈ uni n ↔ x < n ∧ Nat.gcd x n = 1 := by
  unfold uni
  rw [List.mem_filter, List.mem_range, decide_eq_true_iff]
theorem uni_nd (n : Nat) : (uni n).Nodup := List.nodup_range.sublist List.filter_sublist
theorem gcd_mod_one {a n : Nat} : Nat.gcd (a % n) n = Nat.gcd a n := by rw [← Nat.gcd_rec, Nat.gcd_comm]
theorem uni_pro (n : Nat) : Nat.gcd (pro (uni n)) n = 1 := by
  have : ∀ l : List Nat, (∀ x ∈ l, Nat.gcd x n = 1) → Nat.gcd (pro l) n = 1 := by
    intro l
    induction l with
    | nil => intro _; exact Nat.gcd_one_left n
    | cons x l ih =>
      intro h
      show Nat.gcd (x * pro l) n = 1
      exact Nat.Coprime.mul_left (h x (List.mem_cons_self ..)) (ih fun y hy => h y (List.mem_cons_of_mem _ hy))
  exact this _ fun x hx => (mem_uni.mp hx).2
theorem cop_cut {a x y n : Nat} (ha : Nat.gcd a n = 1) (hxy : x ≤ y) (h : a * x % n = a * y % n) : x % n = y % n := by
  have h2 := mod_dvd h.symm (Nat.mul_le_mul_left a hxy)
  rw [← Nat.mul_sub] at h2
  have hc : Nat.Coprime n a := by rw [Nat.Coprime, Nat.gcd_comm]; exact ha
  exact (mod_of_dvd (hc.dvd_of_dvd_mul_left h2) hxy).symm
theorem euler {a n : Nat} (hn : 0 < n) (ha : Nat.gcd a n = 1) : a ^ (uni n).length % n = 1 % n := by
  have hp : ((uni n).map fun x => a * x % n).Perm (uni n) := by
    refine perm_of ?_ (uni_nd n) ?_ (by rw [List.length_map]; exact Nat.le_refl _)
    · rw [List.nodup_iff_pairwise_ne, List.pairwise_map]
      refine List.Pairwise.imp_of_mem ?_ (List.nodup_iff_pairwise_ne.mp (uni_nd n))
      intro x y hx hy hne e
      have h1 := (mem_uni.mp hx).1
      have h2 := (mem_uni.mp hy).1
      rcases Nat.le_total x y with z | z
      · have := cop_cut ha z e
        rw [Nat.mod_eq_of_lt h1, Nat.mod_eq_of_lt h2] at this
        exact hne this
      · have := cop_cut ha z e.symm
        rw [Nat.mod_eq_of_lt h1, Nat.mod_eq_of_lt h2] at this
        exact hne this.symm
    · intro x hx
      obtain ⟨y, hy, rfl⟩ := List.mem_map.mp hx
      refine mem_uni.mpr ⟨Nat.mod_lt _ hn, ?_⟩
      rw [gcd_mod_one]
      exact Nat.Coprime.mul_left ha (mem_uni.mp hy).2
  have e := pro_map (a := a) (n := n) (uni n)
  rw [pro_perm hp, Nat.mul_comm] at e
  exact cut_cong (uni_pro n) e.symm
theorem uni_prime {p : Nat} (h : Pr p) : (uni p).length = p - 1 := by
  have e : uni p = (List.range p).filter fun x => decide (x ≠ 0) := by
    unfold uni
    apply List.filter_congr
    intro x hx
    have hx := List.mem_range.mp hx
    by_cases z : x = 0
    · subst z
      have := h.1
      refine decide_eq_decide.mpr ?_
      rw [Nat.gcd_zero_left]
      omega
    · have : Nat.gcd x p = 1 := by
        rw [Nat.gcd_comm]
        exact h.cop fun hd => by have := Nat.le_of_dvd (by omega) hd; omega
      simp [this, z]
  rw [e]
  obtain ⟨q, rfl⟩ : ∃ q, p = q + 1 := ⟨p - 1, by have := h.1; omega⟩
  rw [List.range_succ_eq_map, List.filter_cons_of_neg (by simp), List.filter_eq_self.mpr (by simp)]
  simp
theorem fermat {p a : Nat} (h : Pr p) (ha : ¬ p ∣ a) : a ^ (p - 1) % p = 1 := by
  have := euler h.pos (a := a) (by rw [Nat.gcd_comm]; exact h.cop ha)
  rw [uni_prime h, Nat.mod_eq_of_lt (show 1 < p from h.1)] at this
  exact this

/-! ### orders -/
theorem pow_gcd {a n : Nat} : ∀ (x y : Nat), a ^ x % n = 1 % n → a ^ y % n = 1 % n → a ^ Nat.gcd x y % n = 1 % n := by
  intro x
  induction x using Nat.strongRecOn with
  | _ x ih =>
    intro y hx hy
    by_cases z : x = 0
    · subst z; rw [Nat.gcd_zero_left]; exact hy
    · rw [Nat.gcd_rec]
      refine ih (y % x) (Nat.mod_lt _ (by omega)) x ?_ hx
      have e : a ^ y = (a ^ x) ^ (y / x) * a ^ (y % x) := by rw [← Nat.pow_mul, ← Nat.pow_add, Nat.div_add_mod]
      rw [e, mul_cong (pow_cong hx (y / x)) rfl, Nat.one_pow, Nat.one_mul] at hy
      exact hy
theorem pow_mul_one {a n x : Nat} (h : a ^ x % n = 1 % n) {y : Nat} (hd : x ∣ y) : a ^ y % n = 1 % n := by
  obtain ⟨c, rfl⟩ := hd
  rw [Nat.pow_mul, pow_cong h c, Nat.one_pow]
/-- no lesser one -/
theorem order_dvd {a n K m : Nat} (hK : 0 < K) (h : a ^ K % n = 1 % n) (hp : ∀ q, Pr q → K % q = 0 → a ^ (K / q) % n ≠ 1 % n) (hm : a ^ m % n = 1 % n) : K ∣ m := by
  have hg := pow_gcd K m h hm
  have hd := Nat.gcd_dvd_left K m
  have h0 : 0 < Nat.gcd K m := Nat.pos_of_dvd_of_pos hd hK
  by_cases e : Nat.gcd K m = K
  · exact e ▸ Nat.gcd_dvd_right K m
  · exfalso
    obtain ⟨c, hc⟩ := hd
    generalize Nat.gcd K m = g at *
    have hc2 : 2 ≤ c := by
      rcases c with _ | _ | c
      · omega
      · omega
      · omega
    obtain ⟨q, hq, hqc⟩ := pr_div c hc2
    obtain ⟨d, hd⟩ := Nat.dvd_of_mod_eq_zero hqc
    have hKq : K = q * (g * d) := by rw [hc, hd, Nat.mul_left_comm]
    refine hp q hq (Nat.mod_eq_zero_of_dvd ⟨_, hKq⟩) ?_
    rw [hKq, Nat.mul_div_cancel_left _ hq.pos]
    exact pow_mul_one hg ⟨d, rfl⟩

/-! ### strong passes -/
/-- a passes n strongly, n - 1 being 2 ^ s * d -/
def Strong (n a s d : Nat) : Prop := a ^ d % n = 1 ∨ ∃ i, i < s ∧ a ^ (2 ^ i * d) % n = n - 1
instance (n a s d : Nat) : Decidable (Strong n a s d) := by
  unfold Strong
  have : Decidable (∃ i, i < s ∧ a ^ (2 ^ i * d) % n = n - 1) := decidable_of_iff ((List.range s).any fun i => decide (a ^ (2 ^ i * d) % n = n - 1)) (by simp)
  exact inferInstance
theorem sq_one {p x : Nat} (h : Pr p) (hx : x * x % p = 1) : x % p = 1 ∨ x % p = p - 1 := by
  have h2 := h.1
  have hx0 : 0 < x := Nat.pos_of_ne_zero (by rintro rfl; simp at hx)
  have h1 : 1 ≤ x * x := Nat.mul_pos hx0 hx0
  have hd : p ∣ x * x - 1 := mod_dvd (by rw [hx, Nat.mod_eq_of_lt (by omega)]) h1
  have e : x * x - 1 = (x + 1) * (x - 1) := by
    obtain ⟨y, rfl⟩ : ∃ y, x = y + 1 := ⟨x - 1, by omega⟩
    rw [Nat.add_sub_cancel]
    have : (y + 1) * (y + 1) = (y + 1 + 1) * y + 1 := by
      simp only [Nat.add_mul, Nat.mul_add, Nat.one_mul, Nat.mul_one]; omega
    omega
  rw [e] at hd
  rcases h.mul hd with z | z
  · right
    have := Nat.mod_eq_zero_of_dvd z
    have hlt := Nat.mod_lt x h.pos
    rw [Nat.add_mod, Nat.mod_eq_of_lt (show 1 < p by omega)] at this
    by_cases y : x % p + 1 < p
    · rw [Nat.mod_eq_of_lt y] at this; omega
    · omega
  · left
    rw [mod_of_dvd z hx0, Nat.mod_eq_of_lt (by omega)]
theorem strong_prime {p a s d : Nat} (h : Pr p) (ha : ¬ p ∣ a) (he : p - 1 = 2 ^ s * d) : Strong p a s d := by
  have h2 := h.1
  have key : ∀ j, j ≤ s → a ^ (2 ^ j * d) % p = 1 → Strong p a s d := by
    intro j
    induction j with
    | zero => intro _ h1; exact .inl (by rw [Nat.pow_zero, Nat.one_mul] at h1; exact h1)
    | succ j ih =>
      intro hj h1
      have e : a ^ (2 ^ (j + 1) * d) = a ^ (2 ^ j * d) * a ^ (2 ^ j * d) := by
        rw [← Nat.pow_add, Nat.pow_succ, Nat.mul_comm (2 ^ j) 2, Nat.mul_assoc, Nat.two_mul]
      rw [e] at h1
      rcases sq_one h h1 with z | z
      · exact ih (by omega) z
      · exact .inr ⟨j, by omega, z⟩
  exact key s (Nat.le_refl _) (by rw [← he]; exact fermat h ha)
theorem strong_pass {n a s d : Nat} (hn : 2 ≤ n) (he : n - 1 = 2 ^ s * d) (h : Strong n a s d) : a ^ (n - 1) % n = 1 := by
  rcases h with h | ⟨i, hi, h⟩
  · rw [he, Nat.mul_comm, Nat.pow_mul, pow_cong (b := 1) (by rw [h, Nat.mod_eq_of_lt (by omega)]), Nat.one_pow, Nat.mod_eq_of_lt (by omega)]
  · have e : 2 ^ s * d = 2 ^ i * d * (2 * 2 ^ (s - i - 1)) := by
      have : 2 ^ s = 2 ^ i * (2 * 2 ^ (s - i - 1)) := by
        rw [← Nat.pow_succ', ← Nat.pow_add]; congr 1; omega
      rw [this]
      simp only [Nat.mul_comm, Nat.mul_left_comm, Nat.mul_assoc]
    have hsq : (n - 1) * (n - 1) % n = 1 := by
      obtain ⟨m, rfl⟩ : ∃ m, n = m + 2 := ⟨n - 2, by omega⟩
      have : (m + 2 - 1) * (m + 2 - 1) = 1 + (m + 2) * m := by
        show (m + 1) * (m + 1) = _
        simp only [Nat.add_mul, Nat.mul_add, Nat.one_mul, Nat.mul_one]; omega
      rw [this, Nat.add_mul_mod_self_left, Nat.mod_eq_of_lt (by omega)]
    have h2 : (a ^ (2 ^ i * d)) ^ 2 % n = 1 % n := by
      rw [Nat.pow_two, mul_cong (b := n - 1) (d := n - 1) (by rw [h, Nat.mod_eq_of_lt (by omega)]) (by rw [h, Nat.mod_eq_of_lt (by omega)]), hsq, Nat.mod_eq_of_lt (by omega)]
    rw [he, e, Nat.pow_mul, Nat.pow_mul, pow_cong h2, Nat.one_pow, Nat.mod_eq_of_lt (by omega)]
end Wk
set_option Elab.async false
set_option maxRecDepth 100000
set_option maxHeartbeats 4000000
set_option linter.all false
/-! P2: what the defs of numbers and their partings give -/
namespace Wk
open PySem L2
open PyProof.Rows hiding St
theorem taken_out_ok {p n : Nat} (hp : 2 ≤ p) (hq : p < 10 ^ 40) (hn : 0 < n) (hN : n < 10 ^ 40) : m_taken_out n p = some ((vp p n : Int), ((n / p ^ vp p n : Nat) : Int)) := by
  unfold m_taken_out
  refine tt_eq (tt_bnd.mpr (Tt.then (P' := fun st _ => st = (((n / p ^ vp p n : Nat) : Int), (vp p n : Int))) ?_ ?_))
  · refine Tt.wh (I := fun (st : Int × Int) _ => ∃ m j : Nat, st = ((m : Int), (j : Int)) ∧ 0 < m ∧ m ≤ n ∧ j + vp p m = vp p n ∧ m / p ^ vp p m = n / p ^ vp p n) (nu := fun st => st.1.toNat) ?_ many _ _ ⟨n, 0, rfl, hn, Nat.le_refl _, by omega, rfl⟩ (lt_many (by simpa using hN))
    rintro st s k P ⟨m, j, rfl, h0, hle, h1, h2⟩ hk
    refine tt_grd.mpr ⟨by omega, hk _ _ (fun ht => ?_) (fun ht => ?_)⟩
    · have hd : m % p = 0 := by simp only [decide_eq_true_eq] at ht; omega
      have hdv := Nat.dvd_of_mod_eq_zero hd
      have h3 : 0 < m / p := Nat.div_pos (Nat.le_of_dvd h0 hdv) (by omega)
      have h4 : m / p < m := Nat.div_lt_self h0 (by omega)
      refine tt_bnd.mpr (tt_grd.mpr ⟨dv_nat (by omega) hq, tt_bnd.mpr (tt_pure.mpr ⟨⟨m / p, j + 1, by rw [ndiv]; rfl, h3, by omega, ?_, ?_⟩, ?_⟩)⟩)
      · rw [vp_s h0 hp hd] at h1; omega
      · rw [← h2, vp_s h0 hp hd, Nat.pow_succ, Nat.mul_comm (p ^ _) p, ← Nat.div_div_eq_div_mul]
      · show ((m : Int) / (p : Int)).toNat < (m : Int).toNat
        rw [ndiv]; omega
    · have hd : m % p ≠ 0 := by simp only [decide_eq_false_iff_not] at ht; omega
      rw [vp_no hd] at h1 h2
      show ((m : Int), (j : Int)) = _
      rw [Nat.pow_zero, Nat.div_one] at h2
      rw [← h2, ← h1, Nat.add_zero]
  · rintro st _ rfl
    simp only [tt_bnd, tt_pure]
/-- a power's rest, one loop for all who ask it -/
theorem power_step {j f o m : Nat} (hj : 0 < j) (hm : 0 < m) : (if j % 2 = 1 then f * o % m else f) * (o * o % m) ^ (j / 2) % m = f * o ^ j % m := by
  have key : ∀ g, g * (o * o % m) ^ (j / 2) % m = g * o ^ (2 * (j / 2)) % m := fun g => by
    rw [Nat.mul_mod, ← Nat.pow_mod, ← Nat.mul_mod, Nat.pow_mul, Nat.pow_two]
  rw [key]
  by_cases z : j % 2 = 1
  · rw [if_pos z]
    have : j = 2 * (j / 2) + 1 := by omega
    have e4 : o ^ j = o * o ^ (2 * (j / 2)) := by
      conv => lhs; rw [this]
      rw [Nat.pow_succ, Nat.mul_comm]
    rw [e4, ← Nat.mul_assoc, Nat.mul_mod, Nat.mod_mod, ← Nat.mul_mod]
  · rw [if_neg z]
    have : 2 * (j / 2) = j := by omega
    rw [this]
theorem power_left_ok {a e m : Nat} (hm : 2 ≤ m) (hm2 : m < 10 ^ 14) (he : e < 10 ^ 40) : m_power_left a e m = some ((a ^ e % m : Nat) : Int) := by
  unfold m_power_left
  have hm0 : 0 < m := by omega
  refine tt_eq (tt_bnd.mpr (tt_grd.mpr ⟨by omega, tt_bnd.mpr (Tt.then (P' := fun st _ => st.2.2 = ((a ^ e % m : Nat) : Int)) ?_ fun st _ h => ?_)⟩))
  · rw [nmod]
    refine Tt.wh (I := fun (st : Int × Int × Int) _ => ∃ (o j f : Nat), st = ((o : Int), (j : Int), (f : Int)) ∧ f < m ∧ o < m ∧ f * o ^ j % m = a ^ e % m) (nu := fun st => st.2.1.toNat) ?_ many _ _ ⟨a % m, e, 1, rfl, by omega, Nat.mod_lt _ hm0, ?_⟩ (lt_many (by simpa using he))
    · rintro st s K P ⟨o, j, f, rfl, hf, ho, e1⟩ hk
      refine hk _ _ (fun ht => ?_) (fun ht => ?_)
      · have hj : 0 < j := by simpa using ht
        refine tt_grd.mpr ⟨by decide, Tt.then (P' := fun st _ => st = ((if j % 2 = 1 then f * o % m else f : Nat) : Int)) ?_ ?_⟩
        · by_cases z : j % 2 = 1
          · rw [if_pos (show (decide ((j : Int) % 2 = 1) = true) by rw [decide_eq_true_iff]; omega)]
            simp only [tt_grd, tt_bnd, tt_pure]
            refine ⟨⟨sm_small (by omega), sm_small (by omega)⟩, by omega, ?_⟩
            rw [mulmod, if_pos z]
          · rw [if_neg (show ¬ (decide ((j : Int) % 2 = 1) = true) by rw [decide_eq_true_iff]; omega)]
            rw [if_neg z]; exact tt_pure.mpr rfl
        · rintro st s1 rfl
          simp only [tt_grd, tt_bnd, tt_pure]
          have e2 : (j : Int) / 2 = ((j / 2 : Nat) : Int) := by omega
          rw [mulmod, e2]
          refine ⟨⟨sm_small (by omega), sm_small (by omega)⟩, by omega, dv_of (by decide) (by decide +kernel), ⟨_, j / 2, _, rfl, ?_, Nat.mod_lt _ hm0, ?_⟩, ?_⟩
          · split
            · exact Nat.mod_lt _ hm0
            · exact hf
          · rw [power_step hj hm0, e1]
          · show (((j / 2 : Nat) : Int)).toNat < ((j : Int)).toNat
            omega
      · have hj : j = 0 := by simp at ht; omega
        subst hj
        show (f : Int) = _
        rw [← e1, Nat.pow_zero, Nat.mul_one, Nat.mod_eq_of_lt hf]
    · rw [Nat.one_mul, ← Nat.pow_mod]
  · simp only [tt_bnd, tt_pure]; exact h
theorem does_pass_ok {n a s d : Nat} (hn : 3 ≤ n) (hn2 : n < 10 ^ 14) (hs : 1 ≤ s) (hs2 : s < 10 ^ 6) (hd : d < 10 ^ 40) : m_does_pass n a s d = some (decide (Strong n a s d)) := by
  unfold m_does_pass
  refine tt_eq ((tt_lft (power_left_ok (by omega) hn2 hd)).mpr (tt_bnd.mpr (tt_grd.mpr ⟨by simp, ?_⟩)))
  have hn1 : ((n : Int) - 1) = ((n - 1 : Nat) : Int) := by omega
  have hlt : a ^ d % n < n := Nat.mod_lt _ (by omega)
  by_cases z : a ^ d % n = 1 ∨ a ^ d % n = n - 1
  · refine Tt.pos ?_ (tt_bnd.mpr (tt_pure.mpr ?_))
    · rw [hn1]
      rcases z with z | z <;> rw [z] <;> simp
    · symm
      rw [decide_eq_true_iff]
      rcases z with z | z
      · exact .inl z
      · exact .inr ⟨0, by omega, by rw [Nat.pow_zero, Nat.one_mul]; exact z⟩
  · have z1 : a ^ d % n ≠ 1 := fun e => z (.inl e)
    have z2 : a ^ d % n ≠ n - 1 := fun e => z (.inr e)
    refine Tt.neg ?_ (tt_grd.mpr ⟨⟨by omega, by omega⟩, ?_⟩)
    · rw [hn1]
      simp only [List.contains_cons, List.contains_nil, Bool.or_false, Bool.or_eq_true, beq_iff_eq]
      omega
    · have sq : ∀ i, (a ^ (2 ^ i * d) % n) * (a ^ (2 ^ i * d) % n) % n = a ^ (2 ^ (i + 1) * d) % n := fun i => by
        rw [← Nat.mul_mod, ← Nat.pow_add, Nat.pow_succ, Nat.mul_comm (2 ^ i) 2, Nat.mul_assoc, Nat.two_mul]
      refine Tt.then (P' := fun o _ => match o with | .go _ => ¬ Strong n a s d | .brk _ => False | .ret r => r = decide (Strong n a s d)) ?_ fun o s1 h => ?_
      · refine Tt.rgC (I := fun (x : Int) (st : Int) _ => ∃ i : Nat, x = i ∧ st = ((a ^ (2 ^ i * d) % n : Nat) : Int) ∧ ∀ j, j ≤ i → a ^ (2 ^ j * d) % n ≠ n - 1) ?_ ?_ (s - 1) 0 _ _ (by omega) ⟨0, rfl, by rw [Nat.pow_zero, Nat.one_mul], fun j hj => by rw [show j = 0 by omega, Nat.pow_zero, Nat.one_mul]; exact z2⟩
        · rintro x st s1 hx ⟨i, rfl, rfl, hi⟩
          have hb : a ^ (2 ^ i * d) % n < n := Nat.mod_lt _ (by omega)
          have hb2 : a ^ (2 ^ (i + 1) * d) % n < n := Nat.mod_lt _ (by omega)
          refine tt_grd.mpr ⟨⟨sm_small (by omega), sm_small (by omega)⟩, tt_grd.mpr ⟨by omega, tt_bnd.mpr ?_⟩⟩
          rw [mulmod, sq]
          by_cases y : a ^ (2 ^ (i + 1) * d) % n = n - 1
          · refine Tt.pos (by rw [decide_eq_true_iff]; omega) (tt_bnd.mpr (tt_pure.mpr ?_))
            show true = decide (Strong n a s d)
            symm
            rw [decide_eq_true_iff]
            exact .inr ⟨i + 1, by omega, y⟩
          · refine Tt.neg (by rw [decide_eq_true_iff]; omega) (tt_pure.mpr ⟨i + 1, by omega, rfl, fun j hj => ?_⟩)
            by_cases w : j = i + 1
            · rw [w]; exact y
            · exact hi j (by omega)
        · rintro st s1 ⟨i, e, _, hi⟩
          rintro (h | ⟨j, hj, h⟩)
          · exact z1 h
          · exact hi j (by omega) h
      · cases o with
        | go st => exact tt_bnd.mpr (tt_pure.mpr (by symm; rw [decide_eq_false_iff_not]; exact h))
        | brk st => exact h.elim
        | ret r => exact tt_pure.mpr h
/-! ### the test of primes -/
def sm12 : List Nat := [2, 3, 5, 7, 11, 13, 17, 19, 23, 29, 31, 37]
/-- how often 2 divides n - 1, and the rest -/
def s2 (n : Nat) : Nat := vp 2 (n - 1)
def d2 (n : Nat) : Nat := (n - 1) / 2 ^ vp 2 (n - 1)
def isp (n : Nat) : Bool := if n < 2 then false else match sm12.find? (fun p => decide (n % p = 0)) with
  | some p => decide (n = p)
  | none => sm12.all fun a => decide (Strong n a (s2 n) (d2 n))
theorem s2_spec {n : Nat} (hn : 2 ≤ n) : n - 1 = 2 ^ s2 n * d2 n := vp_split (by decide) (by omega)
theorem s2_pos {n : Nat} (hn : 3 ≤ n) (h : n % 2 = 1) : 1 ≤ s2 n := vp_pos (by omega) (by decide) (by omega)
theorem vp_log {p n k : Nat} (hp : 2 ≤ p) (hn : 0 < n) (h : n < 2 ^ k) : vp p n < k := by
  have h1 := Nat.le_of_dvd hn (vp_dvd hp hn)
  have h3 : 2 ^ vp p n ≤ p ^ vp p n := Nat.pow_le_pow_left hp _
  exact (Nat.pow_lt_pow_iff_right (by decide : 1 < 2)).mp (by omega)
theorem is_prime_number_ok {n : Nat} (hn2 : n < 10 ^ 14) : m_is_prime_number n = some (isp n) := by
  unfold m_is_prime_number isp
  by_cases h2 : n < 2
  · rw [if_pos (show decide ((n : Int) < 2) = true by rw [decide_eq_true_iff]; omega), if_pos h2]; rfl
  rw [if_neg (show ¬ decide ((n : Int) < 2) = true by rw [decide_eq_true_iff]; omega), if_neg h2]
  refine tt_eq (tt_grd.mpr ⟨by simp, tt_bnd.mpr (Tt.then (P' := fun o _ => match o with
      | .go _ => sm12.find? (fun p => decide (n % p = 0)) = none
      | .brk _ => False
      | .ret r => ∃ p, sm12.find? (fun p => decide (n % p = 0)) = some p ∧ r = decide (n = p)) ?_ fun o s1 h => ?_)⟩)
  · refine Tt.lpC (I := fun (l : List Int) (st : Unit) _ => ∃ r : List Nat, l = r.map (fun x : Nat => (x : Int)) ∧ (∀ x ∈ r, 0 < x) ∧ r.find? (fun p => decide (n % p = 0)) = sm12.find? (fun p => decide (n % p = 0))) ?_ ?_ _ _ _ ⟨sm12, rfl, by decide, rfl⟩
    · rintro x xs st s1 ⟨r, e1, h0, e2⟩
      cases r with
      | nil => exact nomatch e1
      | cons y r =>
        rw [List.map_cons] at e1
        injection e1 with e1 e3
        subst e1 e3
        have hy := h0 y (List.mem_cons_self ..)
        refine tt_grd.mpr ⟨by omega, ?_⟩
        by_cases z : n % y = 0
        · refine Tt.pos (by rw [decide_eq_true_iff]; omega) (tt_bnd.mpr (tt_pure.mpr ⟨y, ?_, ?_⟩))
          · rw [← e2, List.find?_cons_of_pos (by simpa using z)]
          · exact dec_nat
        · refine Tt.neg (by rw [decide_eq_true_iff]; omega) (tt_pure.mpr ⟨r, rfl, fun x hx => h0 x (List.mem_cons_of_mem _ hx), ?_⟩)
          rw [← e2, List.find?_cons_of_neg (by simpa using z)]
    · rintro st s1 ⟨r, e1, _, e2⟩
      have : r = [] := List.map_eq_nil_iff.mp e1.symm
      subst this
      exact e2.symm
  · cases o with
    | brk st => exact h.elim
    | ret r =>
      obtain ⟨p, e, rfl⟩ := h
      rw [e]
      exact tt_pure.mpr rfl
    | go st =>
      have h : sm12.find? (fun p => decide (n % p = 0)) = none := h
      have hodd : n % 2 = 1 := by
        have := List.find?_eq_none.mp h 2 (by decide)
        simp at this
        omega
      have e1 : ((n : Int) - 1) = ((n - 1 : Nat) : Int) := by omega
      have e2 : (2 : Int) = ((2 : Nat) : Int) := rfl
      show Tt () (Mir.lft (m_taken_out ((n : Int) - 1) 2) >>= _) _
      rw [e1, e2, taken_out_ok (by decide) (by decide) (by omega) (by omega)]
      refine (tt_lft rfl).mpr (tt_bnd.mpr (tt_grd.mpr ⟨by simp, ?_⟩))
      have h3 : 3 ≤ n := by omega
      refine tt_map (g := fun x : Int => decide (Strong n x.toNat (s2 n) (d2 n))) ?_ (tt_bnd.mpr (tt_pure.mpr ?_))
      · intro x hx s Q hQ
        have hx : x ∈ sm12.map (fun x : Nat => (x : Int)) := hx
        obtain ⟨y, hy, rfl⟩ := List.mem_map.mp hx
        refine (tt_lft (does_pass_ok h3 hn2 (s2_pos h3 hodd) ?_ ?_)).mpr (tt_pure.mpr (by rw [Int.toNat_natCast] at hQ; exact hQ))
        · have := vp_log (p := 2) (n := n - 1) (k := 60) (by decide) (by omega) (by omega)
          show vp 2 (n - 1) < _
          omega
        · have : d2 n ≤ n - 1 := Nat.div_le_self _ _
          show d2 n < _
          omega
      · rw [h]
        show List.all (List.map _ (sm12.map fun x : Nat => (x : Int))) id = _
        rw [List.map_map, List.all_map]
        rfl
theorem sm12_pr : ∀ a ∈ sm12, Pr a := fun a ha => by
  have : ∀ a ∈ sm12, 2 ≤ a ∧ ∀ d, d < a → 2 ≤ d → a % d ≠ 0 := by decide
  exact ⟨(this a ha).1, fun d h1 h2 => (this a ha).2 d h2 h1⟩
theorem isp_prime {p : Nat} (h : Pr p) : isp p = true := by
  have h2 := h.1
  unfold isp
  rw [if_neg (by omega)]
  cases e : sm12.find? (fun q => decide (p % q = 0)) with
  | some q =>
    show decide (p = q) = true
    have hq := List.find?_some e
    have hm := List.mem_of_find?_eq_some e
    simp only [decide_eq_true_eq] at hq ⊢
    rcases h.one (Nat.dvd_of_mod_eq_zero hq) with z | z
    · subst z; exact absurd hm (by decide)
    · exact z.symm
  | none =>
    rw [List.all_eq_true]
    intro a ha
    rw [decide_eq_true_iff]
    refine strong_prime h (fun hd => ?_) (s2_spec h2)
    -- a small prime that p divides is p itself
    have hn := List.find?_eq_none.mp e a ha
    simp only [decide_eq_true_eq] at hn
    rcases Pr.one (sm12_pr a ha) hd with z | z
    · omega
    · exact hn (by rw [z, Nat.mod_self])
end Wk
set_option Elab.async false
set_option maxRecDepth 1000000
set_option maxHeartbeats 4000000
set_option linter.all false
/-! P3: the test of primes is right below ten million -/
namespace Wk
open PySem L2
open PyProof.Rows hiding St
def pwm (m : Nat) : Nat → Nat → Nat → Nat → Nat
  | 0, _, _, acc => acc
  | f + 1, a, e, acc => bif Nat.beq e 0 then acc else pwm m f (a * a % m) (e / 2) (bif Nat.beq (e % 2) 1 then acc * a % m else acc)
theorem nbeq {a b : Nat} (h : a ≠ b) : Nat.beq a b = false := by
  cases e : Nat.beq a b with
  | false => rfl
  | true => exact absurd (Nat.eq_of_beq_eq_true e) h
theorem pwm_eq {m : Nat} (hm : 0 < m) : ∀ (f a e acc : Nat), acc < m → e < 2 ^ f → pwm m f a e acc = acc * a ^ e % m
  | 0, a, e, acc, h, he => by
    have : e = 0 := by rw [Nat.pow_zero] at he; omega
    subst this
    show acc = _
    rw [Nat.pow_zero, Nat.mul_one, Nat.mod_eq_of_lt h]
  | f + 1, a, e, acc, h, he => by
    rw [pwm]
    by_cases z : e = 0
    · subst z
      show acc = _
      rw [Nat.pow_zero, Nat.mul_one, Nat.mod_eq_of_lt h]
    · have b : Nat.beq e 0 = false := nbeq z
      rw [b]
      show pwm m f (a * a % m) (e / 2) _ = _
      have key : (bif Nat.beq (e % 2) 1 then acc * a % m else acc) = if e % 2 = 1 then acc * a % m else acc := by
        by_cases y : e % 2 = 1
        · rw [if_pos y, y]; rfl
        · have : Nat.beq (e % 2) 1 = false := nbeq y
          rw [if_neg y, this]; rfl
      rw [key, pwm_eq hm f _ _ _ (by split; exact Nat.mod_lt _ hm; exact h) (by rw [Nat.pow_succ] at he; omega), power_step (by omega) hm]
def sqs (n : Nat) : Nat → Nat → Bool
  | 0, _ => false
  | s + 1, x => Nat.beq x (n - 1) || sqs n s (x * x % n)
def strB (n a : Nat) : Bool := match out 2 50 (n - 1) with | (s, d) => match pwm n 50 a d 1 with | x => Nat.beq x 1 || sqs n s x
theorem sqs_eq {n a d : Nat} : ∀ (s i : Nat), sqs n s (a ^ (2 ^ i * d) % n) = true ↔ ∃ j, i ≤ j ∧ j < i + s ∧ a ^ (2 ^ j * d) % n = n - 1
  | 0, i => by
    constructor
    · intro h; exact nomatch h
    · rintro ⟨j, h1, h2, _⟩; omega
  | s + 1, i => by
    have sq : (a ^ (2 ^ i * d) % n) * (a ^ (2 ^ i * d) % n) % n = a ^ (2 ^ (i + 1) * d) % n := by
      rw [← Nat.mul_mod, ← Nat.pow_add, Nat.pow_succ, Nat.mul_comm (2 ^ i) 2, Nat.mul_assoc, Nat.two_mul]
    rw [sqs, Bool.or_eq_true, sq, sqs_eq s (i + 1), Nat.beq_eq]
    constructor
    · rintro (h | ⟨j, h1, h2, h3⟩)
      · exact ⟨i, Nat.le_refl _, by omega, h⟩
      · exact ⟨j, by omega, by omega, h3⟩
    · rintro ⟨j, h1, h2, h3⟩
      by_cases z : j = i
      · exact .inl (z ▸ h3)
      · exact .inr ⟨j, by omega, by omega, h3⟩
theorem strB_eq {n a : Nat} (hn : 2 ≤ n) (h : n < 2 ^ 50) : strB n a = true ↔ Strong n a (s2 n) (d2 n) := by
  unfold strB
  rw [out_eq (by decide) 50 (n - 1) (by omega) (by omega)]
  show (Nat.beq (pwm n 50 a (d2 n) 1) 1 || sqs n (s2 n) (pwm n 50 a (d2 n) 1)) = true ↔ _
  have hd : d2 n ≤ n - 1 := Nat.div_le_self _ _
  rw [pwm_eq (by omega) 50 a _ 1 (by omega) (by omega), Nat.one_mul, Bool.or_eq_true, Nat.beq_eq]
  have e := sqs_eq (n := n) (a := a) (d := d2 n) (s2 n) 0
  rw [Nat.pow_zero, Nat.one_mul] at e
  rw [e]
  unfold Strong
  constructor
  · rintro (h | ⟨j, _, h2, h3⟩)
    · exact .inl h
    · exact .inr ⟨j, by omega, h3⟩
  · rintro (h | ⟨j, h2, h3⟩)
    · exact .inl h
    · exact .inr ⟨j, by omega, by omega, h3⟩
/-! ### the candidates -/
def hasS (n : Nat) : Bool := sm12.any fun p => Nat.beq (n % p) 0
def badc (p c : Nat) : Bool := hasS c || [2, 3, 5, 7].any fun a => !strB (p * c) a
def fullp (p : Nat) : Bool := (pf (p - 1)).all fun y => sm12.any fun a => !Nat.beq (a ^ ((p - 1) / y.1) % p) 1
def pr53 : List Nat := [2, 3, 5, 7, 11, 13, 17, 19, 23, 29, 31, 37, 41, 43, 47, 53]
def pq53 (p : Nat) : Bool := pr53.all fun q => Nat.beq p q || !Nat.beq (p % q) 0
def chkp (B p : Nat) : Bool := fullp p && (List.range ((B / p - 1) / (p - 1))).all fun t => badc p (1 + (t + 1) * (p - 1))
def chk (B r : Nat) : Bool := (List.range (r + 1)).all fun p => Nat.ble p 40 || !pq53 p || chkp B p
theorem pr_pq {p : Nat} (h : Pr p) : pq53 p = true := by
  unfold pq53
  rw [List.all_eq_true]
  intro q hq
  have hq2 : 2 ≤ q := by
    have : ∀ q ∈ pr53, 2 ≤ q := by decide
    exact this q hq
  rw [Bool.or_eq_true, Nat.beq_eq]
  by_cases z : p % q = 0
  · rcases h.one (Nat.dvd_of_mod_eq_zero z) with y | y
    · omega
    · exact .inl y.symm
  · right
    have : Nat.beq (p % q) 0 = false := nbeq z
    rw [this]; rfl
theorem small_pr : ∀ p, p < 41 → Pr p → p ∈ sm12 := by
  have key : ∀ p, p < 41 → p ∈ sm12 ∨ p < 2 ∨ ∃ d, d < p ∧ 2 ≤ d ∧ p % d = 0 := by decide
  intro p hp h
  rcases key p hp with z | z | ⟨d, h1, h2, h3⟩
  · exact z
  · have := h.1; omega
  · exact absurd h3 (h.2 d h2 h1)
/-- a prime that divides a composite number, at most its root -/
theorem pr_root {n : Nat} (h2 : 2 ≤ n) (h : ¬ Pr n) : ∃ p, Pr p ∧ n % p = 0 ∧ p * p ≤ n := by
  obtain ⟨q, hq, e⟩ := pr_div n h2
  by_cases z : q * q ≤ n
  · exact ⟨q, hq, e, z⟩
  · obtain ⟨c, hc⟩ := Nat.dvd_of_mod_eq_zero e
    have hc2 : 2 ≤ c := by
      rcases c with _ | _ | c
      · omega
      · exfalso; apply h; rw [hc]; simpa using hq
      · omega
    obtain ⟨r, hr, e2⟩ := pr_div c hc2
    have hrc := Nat.le_of_dvd (by omega) (Nat.dvd_of_mod_eq_zero e2)
    refine ⟨r, hr, Nat.mod_eq_zero_of_dvd (Nat.dvd_trans (Nat.dvd_of_mod_eq_zero e2) ⟨q, by rw [hc, Nat.mul_comm]⟩), ?_⟩
    have hcq : c ≤ q := Nat.le_of_not_lt fun y => by
      have : q * q ≤ q * c := Nat.mul_le_mul_left q (by omega)
      omega
    calc r * r ≤ c * c := Nat.mul_le_mul hrc hrc
      _ ≤ q * c := Nat.mul_le_mul_right c hcq
      _ = n := hc.symm
theorem isp_right {B r n : Nat} (hc : chk B r = true) (hr : B < (r + 1) * (r + 1)) (hB : B < 2 ^ 50) (hn : n ≤ B) (h : isp n = true) : Pr n := by
  unfold isp at h
  by_cases h2 : n < 2
  · rw [if_pos h2] at h; cases h
  rw [if_neg h2] at h
  cases e : sm12.find? (fun q => decide (n % q = 0)) with
  | some q =>
    rw [e] at h
    have h : decide (n = q) = true := h
    rw [decide_eq_true_iff] at h
    rw [h]
    exact sm12_pr q (List.mem_of_find?_eq_some e)
  | none =>
    rw [e] at h
    have hall : ∀ a ∈ sm12, Strong n a (s2 n) (d2 n) := fun a ha => by
      have := List.all_eq_true.mp h a ha
      rwa [decide_eq_true_iff] at this
    have hno : ∀ a ∈ sm12, n % a ≠ 0 := fun a ha z => by
      have := List.find?_eq_none.mp e a ha
      simp only [decide_eq_true_eq] at this
      exact this z
    refine Classical.byContradiction fun hnp => ?_
    obtain ⟨p, hp, hd, hpp⟩ := pr_root (by omega) hnp
    have hp41 : 41 ≤ p := Nat.le_of_not_lt fun z => hno p (small_pr p (by omega) hp) hd
    obtain ⟨c, hnc⟩ := Nat.dvd_of_mod_eq_zero hd
    have hcp : p ≤ c := Nat.le_of_not_lt fun z => by
      have : p * c < p * p := Nat.mul_lt_mul_of_pos_left z hp.pos
      omega
    have hpr : p ≤ r := Nat.le_of_not_lt fun z => by
      have : (r + 1) * (r + 1) ≤ p * p := Nat.mul_le_mul z z
      omega
    have hck := List.all_eq_true.mp hc p (List.mem_range.mpr (by omega))
    rw [Bool.or_eq_true, Bool.or_eq_true, pr_pq hp] at hck
    have hck : chkp B p = true := by
      rcases hck with (z | z) | z
      · rw [Nat.ble_eq] at z; omega
      · cases z
      · exact z
    unfold chkp at hck
    rw [Bool.and_eq_true] at hck
    -- all of them leave 1
    have hone : ∀ a ∈ sm12, a ^ (c - 1) % p = 1 % p := fun a ha => by
      have h1 := strong_pass (by omega) (s2_spec (by omega)) (hall a ha)
      have h3 : a ^ (n - 1) % p = 1 % p := by rw [← Nat.mod_mod_of_dvd (a ^ (n - 1)) (Nat.dvd_of_mod_eq_zero hd), h1]
      have hap : ¬ p ∣ a := fun z => by
        have hle := Nat.le_of_dvd ((sm12_pr a ha).pos) z
        have : ∀ a ∈ sm12, a ≤ 37 := by decide
        have := this a ha
        omega
      have hf : a ^ (p - 1) % p = 1 % p := by rw [fermat hp hap, Nat.mod_eq_of_lt (by omega)]
      have e1 : n - 1 = (p - 1) * c + (c - 1) := by
        rw [hnc, Nat.sub_mul, Nat.one_mul]
        have : c ≤ p * c := Nat.le_mul_of_pos_left c hp.pos
        omega
      rw [e1, Nat.pow_add, Nat.pow_mul, mul_cong (pow_cong hf c) rfl, Nat.one_pow, Nat.one_mul] at h3
      exact h3
    have hfull : (p - 1) ∣ (c - 1) := by
      have hg : ∀ a ∈ sm12, a ^ Nat.gcd (p - 1) (c - 1) % p = 1 % p := fun a ha => by
        refine pow_gcd _ _ ?_ (hone a ha)
        have hap : ¬ p ∣ a := fun z => by
          have hle := Nat.le_of_dvd ((sm12_pr a ha).pos) z
          have : ∀ a ∈ sm12, a ≤ 37 := by decide
          have := this a ha
          omega
        rw [fermat hp hap, Nat.mod_eq_of_lt (by omega)]
      have hgd := Nat.gcd_dvd_left (p - 1) (c - 1)
      have hgle := Nat.le_of_dvd (by omega) hgd
      have hg0 : 0 < Nat.gcd (p - 1) (c - 1) := Nat.pos_of_dvd_of_pos hgd (by omega)
      by_cases z : Nat.gcd (p - 1) (c - 1) = p - 1
      · rw [← z]; exact Nat.gcd_dvd_right _ _
      · exfalso
        obtain ⟨e, he⟩ := hgd
        have he2 : 2 ≤ e := by
          rcases e with _ | _ | e
          · omega
          · exfalso; apply z; rw [he]; omega
          · omega
        obtain ⟨q, hq, hqe⟩ := pr_div e he2
        obtain ⟨w, hw⟩ := Nat.dvd_of_mod_eq_zero hqe
        have hpq : p - 1 = q * (Nat.gcd (p - 1) (c - 1) * w) := by
          conv => lhs; rw [he, hw]
          rw [Nat.mul_left_comm]
        have hple : p ≤ n := Nat.le_of_dvd (by omega) (Nat.dvd_of_mod_eq_zero hd)
        have hmem := ((pf_ok (n := p - 1) (by omega) (by omega)).m q _).mpr ⟨hq, ⟨_, hpq⟩, rfl⟩
        obtain ⟨a, ha, y⟩ := List.any_eq_true.mp (List.all_eq_true.mp hck.1 _ hmem)
        have hdq : (p - 1) / q = Nat.gcd (p - 1) (c - 1) * w := by
          conv => lhs; rw [hpq]
          exact Nat.mul_div_cancel_left _ hq.pos
        have y : (!Nat.beq (a ^ ((p - 1) / q) % p) 1) = true := y
        rw [hdq, pow_mul_one (hg a ha) ⟨w, rfl⟩, Nat.mod_eq_of_lt (show 1 < p by omega)] at y
        cases y
    obtain ⟨t, ht⟩ := hfull
    have ht0 : 0 < t := Nat.pos_of_ne_zero (by rintro rfl; omega)
    have hce : c = 1 + (t - 1 + 1) * (p - 1) := by
      rw [Nat.sub_add_cancel ht0, Nat.mul_comm, ← ht]; omega
    have htl : t - 1 < (B / p - 1) / (p - 1) := by
      have h5 : c ≤ B / p := (Nat.le_div_iff_mul_le hp.pos).mpr (by rw [Nat.mul_comm, ← hnc]; exact hn)
      have h6 : t ≤ (B / p - 1) / (p - 1) := (Nat.le_div_iff_mul_le (by omega)).mpr (by rw [Nat.mul_comm, ← ht]; omega)
      omega
    have hb := List.all_eq_true.mp hck.2 (t - 1) (List.mem_range.mpr htl)
    rw [← hce] at hb
    unfold badc at hb
    rw [Bool.or_eq_true] at hb
    rcases hb with z | z
    · obtain ⟨q, hq, y⟩ := List.any_eq_true.mp z
      rw [Nat.beq_eq] at y
      refine hno q hq (Nat.mod_eq_zero_of_dvd (Nat.dvd_trans (Nat.dvd_of_mod_eq_zero y) ⟨p, by rw [hnc, Nat.mul_comm]⟩))
    · obtain ⟨a, ha, y⟩ := List.any_eq_true.mp z
      rw [← hnc] at y
      have hs : strB n a = true := (strB_eq (by omega) (by omega)).mpr (hall a (by
        have : ∀ a ∈ [2, 3, 5, 7], a ∈ sm12 := by decide
        exact this a ha))
      rw [hs] at y
      cases y
end Wk
set_option Elab.async false
set_option maxRecDepth 1000000
set_option maxHeartbeats 4000000
set_option linter.all false
namespace Wk
theorem chk4 : chk 20000 141 = true := by decide +kernel
end Wk
set_option Elab.async false
set_option maxRecDepth 100000
set_option maxHeartbeats 4000000
set_option linter.all false
/-! P5: partings as the program and the law make them -/
namespace Wk
open PySem L2
open PyProof.Rows hiding St
def pfi (l : List (Nat × Nat)) : List (Int × Int) := l.map fun y => ((y.1 : Int), (y.2 : Int))
theorem pfi_app (a b : List (Nat × Nat)) : pfi (a ++ b) = pfi a ++ pfi b := List.map_append
theorem pfi_len (a : List (Nat × Nat)) : (pfi a).length = a.length := List.length_map ..
theorem out_loop {p m : Nat} (hp : 2 ≤ p) (hq : p < 10 ^ 40) (hn : 0 < m) (hN : m < 10 ^ 40) {P : Int × Int → Unit → Prop} (h : P (((m / p ^ vp p m : Nat) : Int), (vp p m : Int)) ()) :
    Tt () (whS many (fun (st : Int × Int) k => Mir.lft (grd (0 < (p : Int))) >>= fun _ => k (decide ((st.1 % (p : Int)) = (0 : Int)))) (fun (st : Int × Int) =>
      bnd (st.2 + (1 : Int)) fun often => Mir.lft (grd (Dv (p : Int))) >>= fun _ => bnd (st.1 / (p : Int)) fun number => pure (number, often)) ((m : Int), (0 : Int)) : Option (Int × Int)) P := by
  refine Tt.mono (P := fun st _ => st = (((m / p ^ vp p m : Nat) : Int), (vp p m : Int))) ?_ fun a s1 e => by rw [e]; exact h
  refine Tt.wh (I := fun (st : Int × Int) _ => ∃ k j : Nat, st = ((k : Int), (j : Int)) ∧ 0 < k ∧ k ≤ m ∧ j + vp p k = vp p m ∧ k / p ^ vp p k = m / p ^ vp p m) (nu := fun st => st.1.toNat) ?_ many _ _ ⟨m, 0, rfl, hn, Nat.le_refl _, by omega, rfl⟩ (lt_many (by simpa using hN))
  rintro st s k P ⟨m', j, rfl, h0, hle, h1, h2⟩ hk
  refine tt_grd.mpr ⟨by omega, hk _ _ (fun ht => ?_) (fun ht => ?_)⟩
  · have hd : m' % p = 0 := by simp only [decide_eq_true_eq] at ht; omega
    have hdv := Nat.dvd_of_mod_eq_zero hd
    have h3 : 0 < m' / p := Nat.div_pos (Nat.le_of_dvd h0 hdv) (by omega)
    have h4 : m' / p < m' := Nat.div_lt_self h0 (by omega)
    refine tt_bnd.mpr (tt_grd.mpr ⟨dv_nat (by omega) hq, tt_bnd.mpr (tt_pure.mpr ⟨⟨m' / p, j + 1, by rw [ndiv]; rfl, h3, by omega, ?_, ?_⟩, ?_⟩)⟩)
    · rw [vp_s h0 hp hd] at h1; omega
    · rw [← h2, vp_s h0 hp hd, Nat.pow_succ, Nat.mul_comm (p ^ _) p, ← Nat.div_div_eq_div_mul]
    · show ((m' : Int) / (p : Int)).toNat < (m' : Int).toNat
      rw [ndiv]; omega
  · have hd : m' % p ≠ 0 := by simp only [decide_eq_false_iff_not] at ht; omega
    rw [vp_no hd] at h1 h2
    show ((m' : Int), (j : Int)) = _
    rw [Nat.pow_zero, Nat.div_one] at h2
    rw [← h2, ← h1, Nat.add_zero]
/-- how a search for primes stands: what is found, what is left -/
structure Sr (n m q : Nat) (l : List (Nat × Nat)) : Prop where
  q2 : 2 ≤ q
  m0 : 0 < m
  md : m ∣ n
  iv : Inv q m
  go : ∀ r, PF m r → PF n (l ++ r)
  ln : l.length ≤ q
theorem Sr.start {n : Nat} (hn : 0 < n) : Sr n n 2 [] := ⟨by decide, hn, Nat.dvd_refl _, inv2 n, fun r h => h, by simp⟩
theorem Sr.no {n m q : Nat} {l : List (Nat × Nat)} (h : Sr n m q l) (hd : m % q ≠ 0) : Sr n m (q + 1) l := ⟨by have := h.q2; omega, h.m0, h.md, h.iv.no hd, h.go, by have := h.ln; omega⟩
theorem Sr.skip {n m q : Nat} {l : List (Nat × Nat)} (h : Sr n m q l) (hd : ¬ Pr q) : Sr n m (q + 1) l := ⟨by have := h.q2; omega, h.m0, h.md, h.iv.skip hd, h.go, by have := h.ln; omega⟩
theorem Sr.out {n m q : Nat} {l : List (Nat × Nat)} (h : Sr n m q l) (hd : m % q = 0) : Sr n (m / q ^ vp q m) (q + 1) (l ++ [(q, vp q m)]) :=
  ⟨by have := h.q2; omega, rest_pos h.q2 h.m0, Nat.dvd_trans (rest_dvd h.q2 h.m0) h.md, h.iv.out h.q2 h.m0, fun r hr => by
    rw [List.append_assoc]
    exact h.go _ (PF.cons h.iv h.q2 h.m0 hd hr), by
    have := h.ln
    rw [List.length_append]
    simpa using this⟩
theorem not_pr {q d : Nat} (h1 : 2 ≤ d) (h2 : d < q) (h3 : q % d = 0) : ¬ Pr q := fun h => h.2 d h1 h2 h3
/-- the end of a search -/
theorem Sr.last {n m q : Nat} {l : List (Nat × Nat)} (h : Sr n m q l) (hm : m = 1 ∨ Pr m) (hn : 0 < n) (h64 : n < 2 ^ 64) : l ++ (if 1 < m then [(m, 1)] else []) = pf n := by
  refine PF.uniq (h.go _ ?_) (pf_ok hn h64)
  rcases hm with e | e
  · rw [e, if_neg (by decide)]; exact PF.one
  · rw [if_pos (show 1 < m from e.1)]; exact PF.prime e
theorem Sr.done {n m q : Nat} {l : List (Nat × Nat)} (h : Sr n m q l) (hq : m < q * q) : m = 1 ∨ Pr m := by
  by_cases z : m = 1
  · exact .inl z
  · exact .inr (h.iv.last (by have := h.m0; omega) hq)
theorem Sr.few {n m q : Nat} {l : List (Nat × Nat)} (h : Sr n m q l) (hn : 0 < n) (h64 : n < 2 ^ 64) : l.length ≤ 64 := by
  have h0 := Nat.le_of_dvd hn h.md
  have := (h.go _ (pf_ok h.m0 (by omega))).len hn
  rw [List.length_append] at this
  have h6 : l.length + (pf m).length < 64 := (Nat.pow_lt_pow_iff_right (by decide : 1 < 2)).mp (by omega)
  omega
/-- the law's next one -/
def nx2 (q : Nat) : Nat := if q = 2 then q + 1 else q + 2
theorem nx2_int {q : Nat} : (if decide ((q : Int) = (2 : Int)) = true then (q : Int) + (1 : Int) else (q : Int) + (2 : Int)) = ((nx2 q : Nat) : Int) := by
  unfold nx2
  by_cases z : q = 2
  · rw [if_pos z, if_pos (by rw [decide_eq_true_iff]; omega)]; rfl
  · rw [if_neg z, if_neg (by rw [decide_eq_true_iff]; omega)]; rfl
theorem nx2_odd {q : Nat} (h : q = 2 ∨ q % 2 = 1) : nx2 q % 2 = 1 := by unfold nx2; split <;> omega
theorem nx2_le (q : Nat) : q < nx2 q ∧ nx2 q ≤ q + 2 := by unfold nx2; split <;> omega
theorem Sr.nx2 {n m q : Nat} {l : List (Nat × Nat)} (h : Sr n m (q + 1) l) (hq : 2 ≤ q) (hw : q = 2 ∨ q % 2 = 1) : Sr n m (Wk.nx2 q) l := by
  unfold Wk.nx2
  by_cases z : q = 2
  · rw [if_pos z]; exact h
  · rw [if_neg z]
    exact h.skip (not_pr (d := 2) (by decide) (by omega) (by omega))
/-- the program's next one -/
def nx6 (q : Nat) : Nat := q + (if q = 2 then 1 else if q = 3 ∨ q % 6 = 5 then 2 else 4)
def Wh (q : Nat) : Prop := q = 2 ∨ q = 3 ∨ q % 6 = 5 ∨ (q % 6 = 1 ∧ 5 ≤ q)
theorem Wh.nx6 {q : Nat} (h : Wh q) : Wh (Wk.nx6 q) := by
  unfold Wh at h
  unfold Wk.nx6 Wh
  split
  · omega
  · split <;> omega
theorem nx6_le (q : Nat) : q < nx6 q ∧ nx6 q ≤ q + 4 := by
  unfold nx6
  split
  · omega
  · split <;> omega
theorem Sr.nx6 {n m q : Nat} {l : List (Nat × Nat)} (h : Sr n m (q + 1) l) (hq : 2 ≤ q) (hw : Wh q) : Sr n m (Wk.nx6 q) l := by
  unfold Wh at hw
  unfold Wk.nx6
  by_cases z : q = 2
  · rw [if_pos z]; exact h
  · rw [if_neg z]
    have h2 := h.skip (not_pr (d := 2) (by decide) (by omega) (by omega))
    by_cases y : q = 3 ∨ q % 6 = 5
    · rw [if_pos y]; exact h2
    · rw [if_neg y]
      exact (h2.skip (not_pr (d := 3) (by decide) (by omega) (by omega))).skip (not_pr (d := 2) (by decide) (by omega) (by omega))
theorem primes_of_ok {n : Nat} (hn : 0 < n) (h14 : n < 10 ^ 14) (hip : ∀ m, m ∣ n → isp m = true → Pr m) : m_primes_of n = some (pfi (pf n)) := by
  unfold m_primes_of
  refine tt_eq (tt_grd.mpr ⟨by simp, tt_bnd.mpr (tt_bnd.mpr (Tt.then (P' := fun o _ => match o with
      | .go st => ∃ (m q : Nat) (l : List (Nat × Nat)), st = ((m : Int), pfi l, (q : Int)) ∧ ∃ q', Sr n m q' l ∧ (m = 1 ∨ Pr m)
      | .brk st => ∃ (m q : Nat) (l : List (Nat × Nat)), st = ((m : Int), pfi l, (q : Int)) ∧ ∃ q', Sr n m q' l ∧ (m = 1 ∨ Pr m)
      | .ret _ => False) ?_ fun o _ h => ?_))⟩)
  · refine Tt.whC (I := fun (st : Int × (List (Int × Int)) × Int) _ => ∃ (m q : Nat) (l : List (Nat × Nat)), st = ((m : Int), pfi l, (q : Int)) ∧ Sr n m q l ∧ q ≤ n + 5 ∧ Wh q) (nu := fun st => n + 5 - st.2.2.toNat) ?_ many _ _ ⟨n, 2, [], rfl, Sr.start hn, by omega, .inl rfl⟩ (lt_many (by show n + 5 - 2 < _; omega))
    rintro st s k P ⟨m, q, l, rfl, hs, hq, hw⟩ hk
    have hmn := Nat.le_of_dvd hn hs.md
    have hm0 := hs.m0
    have hq2 := hs.q2
    refine tt_grd.mpr ⟨⟨sm_nat (by show q ≤ _; omega), sm_nat (by show q ≤ _; omega)⟩, hk _ _ (fun ht => ?_) (fun ht => ?_)⟩
    · have ht : q * q ≤ m := by
        have : (q : Int) * (q : Int) ≤ (m : Int) := by simpa using ht
        exact_mod_cast this
      have hqm : q * 1 < q * q := Nat.mul_lt_mul_of_pos_left (by omega) (by omega)
      have hle := nx6_le q
      have hfew := hs.few hn (by omega)
      have step : ∀ {β : Type} {b : Bool} {m' : Int} {x : List (Int × Int)} {P : Ctl β (Int × (List (Int × Int)) × Int) → Unit → Prop}, P (.go (m', x, ((nx6 q : Nat) : Int))) () →
          Tt () ((if (decide ((q : Int) = (2 : Int))) = true then pure (1 : Int) else (if (decide ((q : Int) = (3 : Int))) = true then pure true else Mir.lft (grd (0 < (6 : Int))) >>= fun _ => pure (decide (((q : Int) % (6 : Int)) = (5 : Int)))) >>= fun b => pure (if b = true then (2 : Int) else (4 : Int))) >>= fun c => bnd ((q : Int) + c) fun p => (pure (Ctl.go (m', x, p)) : Option (Ctl β (Int × (List (Int × Int)) × Int)))) P := by
        intro β b m' x P h
        unfold nx6 at h
        by_cases z : q = 2
        · rw [if_pos (show decide ((q : Int) = 2) = true by rw [decide_eq_true_iff]; omega)]
          rw [if_pos z] at h
          exact tt_bind.mpr (tt_pure.mpr (tt_bnd.mpr (tt_pure.mpr h)))
        · rw [if_neg (show ¬ decide ((q : Int) = 2) = true by rw [decide_eq_true_iff]; omega)]
          rw [if_neg z] at h
          by_cases y : q = 3
          · rw [if_pos (show decide ((q : Int) = 3) = true by rw [decide_eq_true_iff]; omega)]
            rw [if_pos (.inl y)] at h
            exact tt_bind.mpr (tt_bind.mpr (tt_pure.mpr (tt_pure.mpr (tt_bnd.mpr (tt_pure.mpr h)))))
          · rw [if_neg (show ¬ decide ((q : Int) = 3) = true by rw [decide_eq_true_iff]; omega)]
            refine tt_bind.mpr (tt_bind.mpr (tt_grd.mpr ⟨by decide, tt_pure.mpr (tt_pure.mpr (tt_bnd.mpr (tt_pure.mpr ?_)))⟩))
            by_cases w : q % 6 = 5
            · rw [if_pos (show decide ((q : Int) % 6 = 5) = true by rw [decide_eq_true_iff]; omega)]
              rw [if_pos (.inr w)] at h
              exact h
            · rw [if_neg (show ¬ decide ((q : Int) % 6 = 5) = true by rw [decide_eq_true_iff]; omega)]
              rw [if_neg (by omega)] at h
              exact h
      refine tt_grd.mpr ⟨by show (0 : Int) < (q : Int); omega, ?_⟩
      by_cases z : m % q = 0
      · rw [if_pos (show decide ((m : Int) % (q : Int) = 0) = true by rw [decide_eq_true_iff]; omega)]
        refine (tt_lft (taken_out_ok hq2 (by omega) hm0 (by omega))).mpr (tt_bnd.mpr (tt_grd.mpr ⟨by show (pfi l).length < _; rw [pfi_len]; omega, tt_bnd.mpr ?_⟩))
        have hso := hs.out z
        have hdv := Nat.le_of_dvd hn hso.md
        refine (tt_lft (is_prime_number_ok (by omega))).mpr ?_
        cases e : isp (m / q ^ vp q m) with
        | true =>
          refine Tt.pos rfl (tt_pure.mpr ⟨_, q, l ++ [(q, vp q m)], ?_, q + 1, hso, .inr (hip _ hso.md e)⟩)
          rw [pfi_app]; rfl
        | false =>
          refine Tt.neg (by decide) (Tt.then (P' := fun b _ => b = false) ?_ ?_)
          · by_cases w : q = 1009
            · refine Tt.pos (by rw [decide_eq_true_iff]; show (q : Int) = 1009; omega) ((tt_lft (is_prime_number_ok (by omega))).mpr (tt_pure.mpr e))
            · exact Tt.neg (by rw [decide_eq_true_iff]; show ¬ (q : Int) = 1009; omega) (tt_pure.mpr rfl)
          · rintro b _ rfl
            refine Tt.neg (by decide) (step (b := false) ?_)
            refine ⟨⟨m / q ^ vp q m, nx6 q, l ++ [(q, vp q m)], ?_, hso.nx6 hq2 hw, by omega, hw.nx6⟩, by show n + 5 - ((nx6 q : Nat) : Int).toNat < n + 5 - (q : Int).toNat; omega⟩
            rw [pfi_app]; rfl
      · rw [if_neg (show ¬ decide ((m : Int) % (q : Int) = 0) = true by rw [decide_eq_true_iff]; omega)]
        refine Tt.then (P' := fun b _ => b = true → Pr m) ?_ ?_
        · by_cases w : q = 1009
          · refine Tt.pos (by rw [decide_eq_true_iff]; show (q : Int) = 1009; omega) ((tt_lft (is_prime_number_ok (by omega))).mpr (tt_pure.mpr fun e => hip _ hs.md e))
          · exact Tt.neg (by rw [decide_eq_true_iff]; show ¬ (q : Int) = 1009; omega) (tt_pure.mpr fun e => nomatch e)
        · intro b _ hb
          cases b with
          | true => exact Tt.pos rfl (tt_pure.mpr ⟨m, q, l, rfl, q, hs, .inr (hb rfl)⟩)
          | false =>
            refine Tt.neg (by decide) (step (b := false) ?_)
            exact ⟨⟨m, nx6 q, l, rfl, (hs.no z).nx6 hq2 hw, by omega, hw.nx6⟩, by show n + 5 - ((nx6 q : Nat) : Int).toNat < n + 5 - (q : Int).toNat; omega⟩
    · refine ⟨m, q, l, rfl, q, hs, hs.done ?_⟩
      have : ¬ (q : Int) * (q : Int) ≤ (m : Int) := by simpa using ht
      have : ¬ q * q ≤ m := fun y => this (by exact_mod_cast y)
      omega
  · have fin : ∀ st : Int × (List (Int × Int)) × Int, (∃ (m q : Nat) (l : List (Nat × Nat)), st = ((m : Int), pfi l, (q : Int)) ∧ ∃ q', Sr n m q' l ∧ (m = 1 ∨ Pr m)) →
        Tt () ((if (decide ((1 : Int) < st.1)) = true then Mir.lft (grd (List.length ([(st.1, (1 : Int))] : List (Int × Int)) ≤ 16000000)) >>= fun _ => pure ([(st.1, (1 : Int))] : List (Int × Int)) else Mir.lft (grd (List.length ([] : List (Int × Int)) ≤ 16000000)) >>= fun _ => pure ([] : List (Int × Int))) >>= fun c => Mir.lft (grd (List.length st.2.1 + List.length c ≤ 16000000)) >>= fun _ => bnd (st.2.1 ++ c) fun r => (pure r : Option (List (Int × Int)))) fun a _ => a = pfi (pf n) := by
      rintro st ⟨m, q, l, rfl, q', hs, hlast⟩
      have hfew := hs.few hn (by omega)
      rw [← hs.last hlast hn (by omega), pfi_app]
      by_cases z : 1 < m
      · rw [if_pos (show decide ((1 : Int) < (m : Int)) = true by rw [decide_eq_true_iff]; omega), if_pos z]
        refine tt_bind.mpr (tt_grd.mpr ⟨by simp, tt_pure.mpr (tt_grd.mpr ⟨by show (pfi l).length + 1 ≤ _; rw [pfi_len]; omega, tt_bnd.mpr (tt_pure.mpr rfl)⟩)⟩)
      · rw [if_neg (show ¬ decide ((1 : Int) < (m : Int)) = true by rw [decide_eq_true_iff]; omega), if_neg z]
        refine tt_bind.mpr (tt_grd.mpr ⟨by simp, tt_pure.mpr (tt_grd.mpr ⟨by show (pfi l).length + 0 ≤ _; rw [pfi_len]; omega, tt_bnd.mpr (tt_pure.mpr rfl)⟩)⟩)
    cases o with
    | go st => exact fin st h
    | brk st => exact fin st h
    | ret _ => exact h.elim
end Wk
set_option Elab.async false
set_option maxRecDepth 100000
set_option maxHeartbeats 4000000
set_option linter.all false
/-! P6: draws of a pot that is a list -/
namespace Wk
open PySem L2
open PyProof.Rows hiding St
theorem of_ok {s : PotT} {b : Nat} {m : Int} (h : Pot s (b + 1)) (hm : 0 < m) (hm2 : m < 2 ^ 900) : Tt s (m__law_of m) fun a s1 => 0 ≤ a ∧ a < m ∧ Pot s1 b := by
  have hdv : Dv m := dv_of hm (Int.lt_trans hm2 (by decide +kernel))
  unfold m__law_of
  by_cases h1 : m < 2
  · exact Tt.pos (by rw [decide_eq_true_iff]; exact h1) (tt_bnd.mpr (tt_pure.mpr ⟨Int.le_refl _, hm, h.le (by omega)⟩))
  refine Tt.neg (by rw [decide_eq_true_iff]; exact h1) (tt_bind.mpr ⟨s, s, rfl, ?_⟩)
  obtain ⟨g, x, t⟩ := s
  have hl := h.l
  have m0 := h.m0
  have m1 := h.m1
  have t0 := h.t0
  have t1 := h.t1
  have hg := h.g
  dsimp only at hl m0 m1 t0 t1 hg
  cases e : g.getLast? with
  | some c =>
    have hne : g ≠ [] := by rintro rfl; cases e
    have hc : 0 ≤ c := hg c (List.mem_of_getLast? e)
    have hr : ∀ d ∈ g.dropLast, 0 ≤ d := fun d hd => hg d (List.dropLast_subset g hd)
    have hdl : g.dropLast.length = g.length - 1 := List.length_dropLast
    have hl1 : 1 ≤ g.length := List.length_pos_iff.mpr hne
    refine Tt.pos (by unfold neG; cases g with | nil => exact absurd rfl hne | cons _ _ => rfl) (tt_bind.mpr ⟨c, ⟨g.dropLast, x, t⟩, by show popL _ = _; unfold popL; rw [e], tt_bnd.mpr ?_⟩)
    refine Tt.then (P' := fun _ s1 => Pot s1 b) ?_ ?_
    · by_cases z : m ≤ c
      · refine Tt.pos (by rw [decide_eq_true_iff]; exact z) (tt_grd.mpr ⟨hdv, tt_bind.mpr ⟨_, _, rfl, tt_grd.mpr ⟨by show g.dropLast.length < 16000000; omega, tt_bind.mpr ⟨(), _, rfl, tt_pure.mpr ?_⟩⟩⟩⟩)
        refine ⟨fun d hd => ?_, by show (g.dropLast ++ [c / m]).length ≤ 100; rw [List.length_append]; simp; omega, m0, m1, t0, by show t + (b : Int) ≤ _; omega⟩
        rcases List.mem_append.mp hd with e | hd
        · exact hr d e
        · rw [List.mem_singleton.mp hd]; exact Int.ediv_nonneg hc (by omega)
      · exact Tt.neg (by rw [decide_eq_true_iff]; exact z) (tt_pure.mpr ⟨hr, by show g.dropLast.length ≤ 100; omega, m0, m1, t0, by show t + (b : Int) ≤ _; omega⟩)
    · intro _ s1 q
      exact tt_grd.mpr ⟨hm, tt_bnd.mpr (tt_pure.mpr ⟨Int.emod_nonneg _ (by omega), Int.emod_lt_of_pos _ hm, q⟩)⟩
  | none =>
    have hg0 : g = [] := List.getLast?_eq_none_iff.mp e
    subst hg0
    have b1 : t + 1 ≤ 10 ^ 9 := by omega
    refine Tt.neg (by show ¬ (false = true); decide) ?_
    refine tt_bind.mpr ⟨_, _, rfl, tt_bind.mpr ⟨(), _, rfl, tt_bind.mpr ⟨_, _, rfl, tt_bind.mpr ⟨_, _, rfl, ?_⟩⟩⟩⟩
    show Tt (PotT.mk [] x (t + 1)) (Mir.lft (grd (Sm (t + 1) ∧ Sm (2654435761 : Int))) >>= _) _
    have c1 : 0 ≤ (x + (t + 1) * 2654435761) % 4294967279 ∧ (x + (t + 1) * 2654435761) % 4294967279 < 4294967279 := ⟨Int.emod_nonneg _ (by decide), Int.emod_lt_of_pos _ (by decide)⟩
    refine tt_grd.mpr ⟨⟨sm_small (by omega), sm_small (by decide)⟩, tt_grd.mpr ⟨by decide, tt_bnd.mpr ?_⟩⟩
    show Tt (PotT.mk [] x (t + 1)) (Mir.lft (grd (Sm ((x + (t + 1) * 2654435761) % 4294967279) ∧ Sm ((x + (t + 1) * 2654435761) % 4294967279))) >>= _) _
    generalize (x + (t + 1) * 2654435761) % 4294967279 = y at c1 ⊢
    refine tt_grd.mpr ⟨⟨sm_small (by omega), sm_small (by omega)⟩, tt_bind.mpr ⟨_, _, rfl, tt_grd.mpr ⟨⟨sm_small (by show (t + 1).natAbs ≤ _; omega), sm_small (by decide)⟩, tt_grd.mpr ⟨by decide, tt_bnd.mpr ?_⟩⟩⟩⟩
    show Tt (PotT.mk [] x (t + 1)) (Mir.lft (grd (Sm ((y * y + (t + 1) * 40503 + 5) % 4294967231) ∧ Sm ((y * y + (t + 1) * 40503 + 5) % 4294967231))) >>= _) _
    have c2 : 0 ≤ (y * y + (t + 1) * 40503 + 5) % 4294967231 ∧ (y * y + (t + 1) * 40503 + 5) % 4294967231 < 4294967231 := ⟨Int.emod_nonneg _ (by decide), Int.emod_lt_of_pos _ (by decide)⟩
    generalize (y * y + (t + 1) * 40503 + 5) % 4294967231 = u at c2 ⊢
    refine tt_grd.mpr ⟨⟨sm_small (by omega), sm_small (by omega)⟩, tt_bind.mpr ⟨_, _, rfl, tt_grd.mpr ⟨by decide, tt_bnd.mpr (tt_grd.mpr ⟨dv_of (by decide) (by decide +kernel), tt_grd.mpr ⟨hm, tt_bnd.mpr (tt_pure.mpr ⟨Int.emod_nonneg _ (by omega), Int.emod_lt_of_pos _ hm, ?_⟩)⟩⟩)⟩⟩⟩
    exact ⟨fun d hd => (nomatch hd), Nat.zero_le _, m0, m1, by show 0 ≤ t + 1; omega, by show t + 1 + (b : Int) ≤ _; omega⟩
theorem one_ok {s : PotT} {b : Nat} {row : List Int} (h : Pot s (b + 1)) (h0 : row ≠ []) (hl : row.length ≤ 10000) : Tt s (m__law_one row) fun a s1 => a ∈ row ∧ Pot s1 b := by
  unfold m__law_one
  have hp : 0 < row.length := List.length_pos_iff.mpr h0
  refine (of_ok h (by omega) (Int.lt_of_le_of_lt (b := 10000) (by omega) (by decide +kernel))).then fun a s1 ⟨h1, h2, h3⟩ => ?_
  obtain ⟨n, rfl⟩ : ∃ n : Nat, a = n := ⟨a.toNat, by omega⟩
  have hn : n < row.length := by omega
  rw [tt_lft (show atI row (n : Int) = some row[n] by rw [atI_nat hn, List.getElem?_eq_getElem hn])]
  exact tt_bnd.mpr (tt_pure.mpr ⟨List.getElem_mem hn, h3⟩)
theorem pot_ok {ns : List Int} (hb : ∀ i ∈ ns, Builtin.Int.intBits i ≤ 1048576) (hl : ns.length ≤ 63) : ∃ s, m__law_pot ns = some s ∧ Pot s 900000000 := by
  refine tt_ex ?_
  unfold m__law_pot
  have hlen : (cut ns none (some (63 : Int))).length ≤ 63 := by
    rw [show (63 : Int) = ((63 : Nat) : Int) by rfl, cut_head, List.length_take]; omega
  refine tt_grd.mpr ⟨by omega, ?_⟩
  refine tt_map (g := fun (x1 : Int) => ((2 : Int) * (if x1 < 0 then -x1 else x1)) + (if (decide (x1 < (0 : Int))) = true then (1 : Int) else 0)) (fun x hx s Q hQ => ?_) ?_
  · rw [show (63 : Int) = ((63 : Nat) : Int) by rfl, cut_head] at hx
    have := bits_sm (hb x (List.mem_of_mem_take hx))
    refine tt_grd.mpr ⟨⟨sm_small (by decide), ?_⟩, tt_pure.mpr hQ⟩
    rw [abs_if]; unfold Sm; rw [Int.natAbs_natCast]; omega
  · refine tt_bnd.mpr (tt_grd.mpr ⟨⟨sm_small (by decide), sm_small (by omega)⟩, tt_bnd.mpr (Tt.then (P' := fun st _ => 0 ≤ st ∧ st < 2 ^ 40) ?_ ?_)⟩)
    · refine Tt.lp (I := fun (_ : List Int) (st : Int) (_ : Unit) => 0 ≤ st ∧ st < 2 ^ 40) ?_ _ _ _ ?_
      · rintro x xs st s ⟨h1, h2⟩
        exact tt_grd.mpr ⟨⟨sm_small (by omega), sm_small (by decide)⟩, tt_grd.mpr ⟨by decide, tt_bnd.mpr (tt_pure.mpr ⟨Int.emod_nonneg _ (by decide), Int.lt_of_lt_of_le (Int.emod_lt_of_pos _ (by decide)) (by decide)⟩)⟩⟩
      · exact ⟨by omega, by omega⟩
    · rintro st s1 ⟨h1, h2⟩
      refine tt_grd.mpr ⟨by rw [List.length_map]; omega, ?_⟩
      refine tt_filterMap (g := fun (x : Int) => if (decide (((10 : Int) ^ Int.toNat (12 : Int)) < x)) = true then some x else none) (fun x hx s Q hQ => tt_grd.mpr ⟨by decide, ?_⟩) (tt_bnd.mpr (tt_pure.mpr ?_))
      · by_cases z : decide (((10 : Int) ^ Int.toNat (12 : Int)) < x) = true
        · rw [if_pos z] at hQ; exact Tt.pos z (tt_pure.mpr hQ)
        · rw [if_neg z] at hQ; exact Tt.neg z (tt_pure.mpr hQ)
      · refine ⟨fun c hc => ?_, ?_, h1, h2, by show (0 : Int) ≤ 0; decide, by show (0 : Int) + ((900000000 : Nat) : Int) ≤ _; decide⟩
        · obtain ⟨x, hx, e⟩ := List.mem_filterMap.mp hc
          split at e
          · rename_i z
            have z := of_decide_eq_true z
            cases e
            exact Int.le_trans (by decide) (Int.le_of_lt z)
          · cases e
        · exact Nat.le_trans (List.length_filterMap_le ..) (by rw [List.length_map]; omega)
end Wk
set_option Elab.async false
set_option maxRecDepth 100000
set_option maxHeartbeats 4000000
set_option linter.all false
/-! A92a: powers, what they give -/
namespace Wk
open PySem L2
open PyProof.Rows hiding St
/-- a loop over items that stand for others -/
theorem Tt.fold {μ : Type → Type} {τ : Type} [Mir μ τ] {α ζ X Z : Type} {f : α → ζ → μ ζ} (ex : X → α) (ez : Z → ζ) (g : Z → X → Z) (I : Z → List X → Prop)
    (h : ∀ x xs z s (P : ζ → τ → Prop), I z (x :: xs) → (I (g z x) xs → P (ez (g z x)) s) → Tt s (f (ex x) (ez z)) P) :
    ∀ (l : List X) (z : Z) (s : τ) {P : ζ → τ → Prop}, I z l → (I (l.foldl g z) [] → P (ez (l.foldl g z)) s) → Tt s (lpS (l.map ex) f (ez z)) P
  | [], z, s, P, hI, hP => tt_pure.mpr (hP hI)
  | x :: l, z, s, P, hI, hP => tt_bind.mpr (h x l z s _ hI fun hI' => Tt.fold ex ez g I h l (g z x) s hI' hP)
theorem law_common_ok {a b : Nat} (hb : b < 10 ^ 40) : m__law_common a b = some ((Nat.gcd a b : Nat) : Int) := by
  unfold m__law_common
  refine tt_eq (Tt.then (P' := fun st _ => st.1 = ((Nat.gcd a b : Nat) : Int)) ?_ fun st _ h => by simp only [tt_bnd, tt_pure]; exact h)
  refine Tt.wh (I := fun (st : Int × Int) _ => ∃ x y : Nat, st = ((x : Int), (y : Int)) ∧ Nat.gcd x y = Nat.gcd a b) (nu := fun st => st.2.toNat) ?_ many _ _ ⟨a, b, rfl, rfl⟩ (lt_many (by simpa using hb))
  rintro st s k P ⟨x, y, rfl, e⟩ hk
  refine hk _ _ (fun ht => ?_) (fun ht => ?_)
  · have hy : 0 < y := by simpa using ht
    refine tt_bnd.mpr (tt_grd.mpr ⟨by show (0 : Int) < (y : Int); omega, tt_bnd.mpr (tt_pure.mpr ⟨⟨y, x % y, by rw [nmod], ?_⟩, ?_⟩)⟩)
    · rw [← e, Nat.gcd_comm x y, Nat.gcd_rec y x, Nat.gcd_comm]
    · have := Nat.mod_lt x hy
      show ((x : Int) % (y : Int)).toNat < (y : Int).toNat
      rw [nmod]; omega
  · have hy : y = 0 := by simp at ht; omega
    subst hy
    rw [Nat.gcd_zero_right] at e
    show (x : Int) = _
    rw [e]
theorem common_divisor_ok {a b : Nat} (hb : b < 10 ^ 40) : m_common_divisor a b = some ((Nat.gcd a b : Nat) : Int) := by
  have e : m_common_divisor a b = m__law_common a b := by unfold m_common_divisor m__law_common; rfl
  rw [e, law_common_ok hb]
theorem power_rest_ok {a e m : Nat} (hm : 1 ≤ m) (hm2 : m < 10 ^ 14) (he : e < 10 ^ 40) : m_power_rest a e m = some ((a ^ e % m : Nat) : Int) := by
  unfold m_power_rest
  have hm0 : 0 < m := by omega
  have h1 : ((1 : Int) % (m : Int)) = ((1 % m : Nat) : Int) := by push_cast; rfl
  refine tt_eq (tt_grd.mpr ⟨by omega, tt_bnd.mpr (tt_grd.mpr ⟨by omega, tt_bnd.mpr (Tt.then (P' := fun st _ => st.2.1 = ((a ^ e % m : Nat) : Int)) ?_ fun st _ h => ?_)⟩)⟩)
  · rw [nmod, h1]
    refine Tt.wh (I := fun (st : Int × Int × Int) _ => ∃ (j f o : Nat), st = ((j : Int), (f : Int), (o : Int)) ∧ f < m ∧ o < m ∧ f * o ^ j % m = a ^ e % m) (nu := fun st => st.1.toNat) ?_ many _ _ ⟨e, 1 % m, a % m, rfl, Nat.mod_lt _ hm0, Nat.mod_lt _ hm0, ?_⟩ (lt_many (by simpa using he))
    · rintro st s K P ⟨j, f, o, rfl, hf, ho, e1⟩ hk
      refine hk _ _ (fun ht => ?_) (fun ht => ?_)
      · have hj : 0 < j := by simpa using ht
        refine tt_grd.mpr ⟨by decide, Tt.then (P' := fun st _ => st = ((if j % 2 = 1 then f * o % m else f : Nat) : Int)) ?_ ?_⟩
        · by_cases z : j % 2 = 1
          · rw [if_pos (show (decide ((j : Int) % 2 = 1) = true) by rw [decide_eq_true_iff]; omega)]
            simp only [tt_grd, tt_bnd, tt_pure]
            refine ⟨⟨sm_small (by omega), sm_small (by omega)⟩, by omega, ?_⟩
            rw [mulmod, if_pos z]
          · rw [if_neg (show ¬ (decide ((j : Int) % 2 = 1) = true) by rw [decide_eq_true_iff]; omega)]
            rw [if_neg z]; exact tt_pure.mpr rfl
        · rintro st s1 rfl
          simp only [tt_grd, tt_bnd, tt_pure]
          have e2 : (j : Int) / 2 = ((j / 2 : Nat) : Int) := by omega
          rw [mulmod, e2]
          refine ⟨⟨sm_small (by omega), sm_small (by omega)⟩, by omega, dv_of (by decide) (by decide +kernel), ⟨j / 2, _, _, rfl, ?_, Nat.mod_lt _ hm0, ?_⟩, ?_⟩
          · split
            · exact Nat.mod_lt _ hm0
            · exact hf
          · rw [power_step hj hm0, e1]
          · show (((j / 2 : Nat) : Int)).toNat < ((j : Int)).toNat
            omega
      · have hj : j = 0 := by simp at ht; omega
        subst hj
        show (f : Int) = _
        rw [← e1, Nat.pow_zero, Nat.mul_one, Nat.mod_eq_of_lt hf]
    · rw [Nat.mul_mod, Nat.mod_mod, ← Nat.pow_mod, ← Nat.mul_mod, Nat.one_mul]
  · simp only [tt_bnd, tt_pure]; exact h
theorem one_mod {n : Nat} (h : 2 ≤ n) : ((1 : Int) % (n : Int)) = 1 := Int.emod_eq_of_lt (by decide) (by omega)
end Wk
set_option Elab.async false
set_option maxRecDepth 100000
set_option maxHeartbeats 4000000
set_option linter.all false
/-! A91b: counts of passes, orders -/
namespace Wk
open PySem L2
open PyProof.Rows hiding St
theorem ip4 {n m : Nat} (hn : 0 < n) (h : n ≤ 20000) (hd : m ∣ n) (hi : isp m = true) : Pr m :=
  isp_right chk4 (by decide) (by decide) (Nat.le_trans (Nat.le_of_dvd hn hd) h) hi
theorem po {n : Nat} (hn : 0 < n) (h : n ≤ 20000) : m_primes_of n = some (pfi (pf n)) := primes_of_ok hn (by omega) fun m hd hi => ip4 hn h hd hi
theorem pf_low {n : Nat} (hn : 0 < n) (h : n ≤ 20000) : ∀ y ∈ pf n, 2 ≤ y.1 ∧ y.1 ≤ 20000 ∧ 1 ≤ y.2 ∧ y.2 ≤ 20 := fun ⟨q, k⟩ hm => by
  have hp := pf_ok hn (by omega)
  have := hp.low hn hm
  have hv := ((hp.m q k).mp hm).2.2
  have : vp q n < 15 := vp_log this.1 hn (by omega)
  show 2 ≤ q ∧ q ≤ 20000 ∧ 1 ≤ k ∧ k ≤ 20
  omega
theorem pf_len {n : Nat} (hn : 0 < n) (h : n ≤ 20000) : (pf n).length ≤ 15 := by
  have := (pf_ok hn (by omega)).len hn
  have : (pf n).length < 15 := (Nat.pow_lt_pow_iff_right (by decide : 1 < 2)).mp (by omega)
  omega
/-- a product over a list -/
theorem Tt.prod {α X : Type} {f : α → Int → Option Int} (ex : X → α) (g : X → Nat) (l : List X) (hl : l.length ≤ 100) (hb : ∀ x ∈ l, g x ≤ 10 ^ 5)
    (hf : ∀ x ∈ l, ∀ (z : Nat) (P : Int → Unit → Prop), Sm (z : Int) → P ((z * g x : Nat) : Int) () → Tt () (f (ex x) (z : Int)) P) {P : Int → Unit → Prop}
    (hP : l.foldl (fun a x => a * g x) 1 ≤ 10 ^ 500 → P ((l.foldl (fun a x => a * g x) 1 : Nat) : Int) ()) : Tt () (lpS (l.map ex) f (1 : Int)) P := by
  refine Tt.fold (μ := Option) (f := f) ex (fun z : Nat => (z : Int)) (fun a x => a * g x) (fun z r => z ≤ 10 ^ (5 * (100 - r.length)) ∧ r.length ≤ 100 ∧ ∀ x ∈ r, x ∈ l) ?_ l 1 () ⟨Nat.pow_pos (by decide), hl, fun x hx => hx⟩ fun h => hP h.1
  rintro x xs z s P ⟨h1, h2, h3⟩ hk
  rw [List.length_cons] at h1 h2
  have hx := h3 x (List.mem_cons_self ..)
  refine hf x hx z P (sm_pow h1 (by omega)) (hk ⟨?_, by omega, fun y hy => h3 y (List.mem_cons_of_mem _ hy)⟩)
  have : 10 ^ (5 * (100 - xs.length)) = 10 ^ (5 * (100 - (xs.length + 1))) * 10 ^ 5 := by rw [← Nat.pow_add]; congr 1; omega
  rw [this]
  exact Nat.mul_le_mul h1 (hb x hx)
def pairI (y : Nat × Nat) : Int × Int := ((y.1 : Int), (y.2 : Int))
theorem gcd_le {a b k : Nat} (hb : 0 < b) (h : b ≤ k) : Nat.gcd a b ≤ k := Nat.le_trans (Nat.le_of_dvd hb (Nat.gcd_dvd_right a b)) h
def pn (n : Nat) : Nat := (pf n).foldl (fun a y => a * Nat.gcd (n - 1) (y.1 - 1)) 1
theorem power_of_ok {a k : Nat} (ha : a ≤ 20000) (hk : k ≤ 100) : m_power_of a k = some ((a ^ k : Nat) : Int) := by
  unfold m_power_of
  refine tt_eq (tt_bnd.mpr (tt_grd.mpr ⟨⟨by omega, by omega⟩, Tt.then (P' := fun st _ => st = ((a ^ k : Nat) : Int)) ?_ fun st _ h => ?_⟩))
  · refine (Tt.rg (I := fun (x : Int) (st : Int) _ => ∃ y : Nat, x = y ∧ st = ((a ^ y : Nat) : Int)) ?_ k 0 _ _ (by omega) ⟨0, rfl, by rw [Nat.pow_zero]; rfl⟩).mono (fun st _ => by
      rintro ⟨y, e, rfl⟩
      have : y = k := by omega
      rw [this])
    rintro x st s hx ⟨y, rfl, rfl⟩
    have hb : a ^ y ≤ 10 ^ (5 * y) := by rw [Nat.pow_mul]; exact Nat.pow_le_pow_left (by omega) y
    refine tt_grd.mpr ⟨⟨sm_pow hb (by omega), sm_nat (by omega)⟩, tt_bnd.mpr (tt_pure.mpr ⟨y + 1, by omega, by rw [Nat.pow_succ, Int.natCast_mul]⟩)⟩
  · subst h; exact tt_bnd.mpr (tt_pure.mpr rfl)
def ln (y : Nat × Nat) : List Nat := if 2 < y.1 ∨ y.2 < 3 then [(y.1 - 1) * y.1 ^ (y.2 - 1)] else [2, 2 ^ (y.2 - 2)]
def lens (n : Nat) : List Nat := (pf n).foldl (fun a y => a ++ ln y) []
def ci (l : List Nat) : List Int := l.map fun d : Nat => (d : Int)
theorem ci_app (a b : List Nat) : ci (a ++ b) = ci a ++ ci b := List.map_append
theorem ci_len (a : List Nat) : (ci a).length = a.length := List.length_map ..
theorem ln_len (y : Nat × Nat) : (ln y).length ≤ 2 := by unfold ln; split <;> simp
theorem round_lengths_ok {n : Nat} (hn : 2 ≤ n) (h : n ≤ 20000) : m_round_lengths n = some (ci (lens n)) := by
  unfold m_round_lengths lens
  refine tt_eq (tt_grd.mpr ⟨by simp, tt_bnd.mpr ((tt_lft (po (by omega) h)).mpr (Tt.then (P' := fun st _ => st = ci (lens n)) ?_ ?_))⟩)
  · have hl := pf_len (n := n) (by omega) h
    refine Tt.fold (μ := Option) pairI ci (fun a y => a ++ ln y) (fun z r => z.length + 2 * r.length ≤ 100 ∧ ∀ x ∈ r, x ∈ pf n) ?_ (pf n) [] () ⟨by simp; omega, fun x hx => hx⟩ fun _ => rfl
    rintro y r z s P ⟨h1, h2⟩ hk
    rw [List.length_cons] at h1
    have hy := pf_low (by omega) h y (h2 y (List.mem_cons_self ..))
    have hq := hk ⟨by rw [List.length_append]; have := ln_len y; omega, fun x hx => h2 x (List.mem_cons_of_mem _ hx)⟩
    unfold ln at hq
    have ez : (ci z).length ≤ 200 := by rw [ci_len]; omega
    by_cases c : 2 < y.1 ∨ y.2 < 3
    · rw [if_pos c] at hq
      refine Tt.pos ?_ ?_
      · rw [Bool.or_eq_true, decide_eq_true_iff, decide_eq_true_iff]
        show (2 : Int) < (y.1 : Int) ∨ (y.2 : Int) < 3
        omega
      · have e1 : ((pairI y).2 - 1) = ((y.2 - 1 : Nat) : Int) := by show (y.2 : Int) - 1 = _; omega
        have e2 : ((pairI y).1 - 1) = ((y.1 - 1 : Nat) : Int) := by show (y.1 : Int) - 1 = _; omega
        rw [e1, e2]
        have hb : y.1 ^ (y.2 - 1) ≤ 10 ^ (5 * (y.2 - 1)) := by rw [Nat.pow_mul]; exact Nat.pow_le_pow_left (by omega) _
        refine (tt_lft (power_of_ok (a := y.1) (k := y.2 - 1) (by omega) (by omega))).mpr (tt_grd.mpr ⟨⟨sm_nat (by omega), sm_pow hb (by omega)⟩, tt_grd.mpr ⟨by omega, tt_bnd.mpr (tt_pure.mpr ?_)⟩⟩)
        rw [← Int.natCast_mul]
        rw [ci_app] at hq
        exact hq
    · rw [if_neg c] at hq
      refine Tt.neg ?_ ?_
      · rw [Bool.or_eq_true, decide_eq_true_iff, decide_eq_true_iff]
        show ¬ ((2 : Int) < (y.1 : Int) ∨ (y.2 : Int) < 3)
        omega
      · have e1 : ((pairI y).2 - 2) = ((y.2 - 2 : Nat) : Int) := by show (y.2 : Int) - 2 = _; omega
        rw [e1]
        refine (tt_lft (power_of_ok (a := 2) (k := y.2 - 2) (by omega) (by omega))).mpr (tt_grd.mpr ⟨by simp, tt_grd.mpr ⟨by show (ci z).length + 2 ≤ _; omega, tt_bnd.mpr (tt_pure.mpr ?_)⟩⟩)
        rw [ci_app] at hq
        exact hq
  · rintro st _ rfl
    exact tt_bnd.mpr (tt_pure.mpr rfl)
/-- the lengths are small -/
def LOk (n : Nat) : Prop := (lens n).length ≤ 40 ∧ ∀ x ∈ lens n, 1 ≤ x ∧ x ≤ 20000
instance (n : Nat) : Decidable (LOk n) := inferInstanceAs (Decidable (_ ∧ _))
def lam (n : Nat) : Nat := (lens n).foldl (fun a x => a / Nat.gcd a x * x) 1
def rn (n : Nat) : Nat := (lens n).foldl (fun a x => a * x) 1
theorem rests_number_ok {n : Nat} (hn : 2 ≤ n) (h : n ≤ 20000) (hl : LOk n) : m_rests_number n = some (rn n : Int) := by
  unfold m_rests_number rn
  refine tt_eq (tt_bnd.mpr ((tt_lft (round_lengths_ok hn h)).mpr (Tt.then (Tt.prod (P := fun st _ => st = ((rn n : Nat) : Int)) (fun x : Nat => (x : Int)) (fun y => y) (lens n) (by have := hl.1; omega) (fun y hy => by have := hl.2 y hy; omega) (fun y hy z P hz hP => ?_) fun _ => rfl) ?_)))
  · refine tt_grd.mpr ⟨⟨hz, sm_nat (by have := hl.2 y hy; omega)⟩, tt_bnd.mpr (tt_pure.mpr ?_)⟩
    rw [← Int.natCast_mul]; exact hP
  · rintro st _ rfl
    exact tt_bnd.mpr (tt_pure.mpr rfl)
theorem greatest_order_ok {n : Nat} (hn : 2 ≤ n) (h : n ≤ 20000) (hl : LOk n) : m_greatest_order n = some (lam n : Int) ∧ 0 < lam n := by
  have key : Tt () (m_greatest_order n) fun a _ => a = (lam n : Int) ∧ 0 < lam n := by
    unfold m_greatest_order lam
    refine tt_bnd.mpr ((tt_lft (round_lengths_ok hn h)).mpr (Tt.then (P' := fun st _ => st = ((lam n : Nat) : Int) ∧ 0 < lam n) ?_ fun st _ q => tt_bnd.mpr (tt_pure.mpr q)))
    refine Tt.fold (μ := Option) (fun x : Nat => (x : Int)) (fun z : Nat => (z : Int)) (fun a x => a / Nat.gcd a x * x) (fun z r => 0 < z ∧ z ≤ 10 ^ (5 * (40 - r.length)) ∧ r.length ≤ 40 ∧ ∀ x ∈ r, x ∈ lens n) ?_ (lens n) 1 () ⟨by decide, Nat.pow_pos (by decide), hl.1, fun x hx => hx⟩ fun h => ⟨rfl, h.1⟩
    rintro x r z s P ⟨h0, h1, h2, h3⟩ hk
    rw [List.length_cons] at h1 h2
    have hx := hl.2 x (h3 x (List.mem_cons_self ..))
    have hg : 0 < Nat.gcd z x := Nat.gcd_pos_of_pos_left _ h0
    have hd : z / Nat.gcd z x ≤ z := Nat.div_le_self _ _
    have hp : 0 < z / Nat.gcd z x := Nat.div_pos (Nat.le_of_dvd h0 (Nat.gcd_dvd_left z x)) hg
    have hgx : Nat.gcd z x ≤ 20000 := gcd_le (by omega) (by omega)
    have e10 : 10 ^ (5 * (40 - r.length)) = 10 ^ (5 * (40 - (r.length + 1))) * 10 ^ 5 := by rw [← Nat.pow_add]; congr 1; omega
    have q := hk ⟨Nat.mul_pos hp (by omega), by rw [e10]; exact Nat.mul_le_mul (Nat.le_trans hd h1) (by omega), by omega, fun y hy => h3 y (List.mem_cons_of_mem _ hy)⟩
    refine (tt_lft (common_divisor_ok (by omega))).mpr (tt_grd.mpr ⟨dv_nat hg (by omega), ?_⟩)
    rw [ndiv]
    refine tt_grd.mpr ⟨⟨sm_pow (Nat.le_trans hd h1) (by omega), sm_nat (by omega)⟩, tt_bnd.mpr (tt_pure.mpr ?_)⟩
    rw [← Int.natCast_mul]; exact q
  obtain ⟨a, s1, e, rfl, h0⟩ := key
  refine ⟨?_, h0⟩
  cases hm : m_greatest_order (n : Int) with
  | none => rw [hm] at e; cases e
  | some b => rw [hm] at e; cases e; rfl
/-! ### the order of a base -/
theorem law_order_ok {a n K : Nat} (hn : 2 ≤ n) (hn2 : n ≤ 20000) (ha : a ≤ 20000) (hK : 0 < K) (hK2 : K ≤ 20000) (h : a ^ K % n = 1) (hmin : ∀ j, 0 < j → j < K → a ^ j % n ≠ 1) : m__law_order a n = some (K : Int) := by
  unfold m__law_order
  refine tt_eq (tt_grd.mpr ⟨by omega, tt_bnd.mpr (tt_bnd.mpr (Tt.then (P' := fun st _ => st.2 = (K : Int)) ?_ fun st _ q => tt_bnd.mpr (tt_pure.mpr q)))⟩)
  rw [nmod]
  refine Tt.wh (I := fun (st : Int × Int) _ => ∃ k : Nat, st = (((a ^ k % n : Nat) : Int), (k : Int)) ∧ 0 < k ∧ k ≤ K) (nu := fun st => K - st.2.toNat) ?_ many _ _ ⟨1, by rw [Nat.pow_one]; rfl, by decide, hK⟩ (lt_many (by show K - _ < _; omega))
  rintro st s k P ⟨j, rfl, h0, h1⟩ hk
  refine tt_grd.mpr ⟨by omega, hk _ _ (fun ht => ?_) (fun ht => ?_)⟩
  · rw [one_mod hn] at ht
    have ht : (!decide (((a ^ j % n : Nat) : Int) = 1)) = true := ht
    have hne : a ^ j % n ≠ 1 := fun e => by rw [e] at ht; exact absurd ht (by decide)
    have hjK : j ≠ K := by rintro rfl; exact hne h
    have hlt : a ^ j % n < n := Nat.mod_lt _ (by omega)
    refine tt_grd.mpr ⟨⟨sm_nat (by show a ^ j % n ≤ _; omega), sm_nat (by omega)⟩, tt_grd.mpr ⟨by omega, tt_bnd.mpr (tt_bnd.mpr (tt_pure.mpr ⟨⟨j + 1, ?_, by omega, by omega⟩, ?_⟩))⟩⟩
    · show ((((a ^ j % n : Nat) : Int) * (a : Int)) % (n : Int), (j : Int) + 1) = _
      rw [mulmod, Nat.mul_mod, Nat.mod_mod, ← Nat.mul_mod, ← Nat.pow_succ]; rfl
    · show K - ((j : Int) + 1).toNat < K - (j : Int).toNat
      omega
  · rw [one_mod hn] at ht
    have ht : (!decide (((a ^ j % n : Nat) : Int) = 1)) = false := ht
    have he : a ^ j % n = 1 := Classical.byContradiction fun z => by
      rw [decide_eq_false (by omega)] at ht
      cases ht
    show (j : Int) = K
    have : j = K := Classical.byContradiction fun z => hmin j h0 (by omega) he
    rw [this]
theorem power_order_ok {a n : Nat} (hn : 2 ≤ n) (hn2 : n ≤ 20000) (hl : LOk n) (hM : lam n ≤ 20000) (hg : Nat.gcd a n = 1) (h : a ^ lam n % n = 1) :
    ∃ K : Nat, m_power_order a n = some (K : Int) ∧ 0 < K ∧ K ≤ 20000 ∧ a ^ K % n = 1 ∧ ∀ q, Pr q → K % q = 0 → a ^ (K / q) % n ≠ 1 := by
  obtain ⟨hgo, hM0⟩ := greatest_order_ok hn hn2 hl
  generalize lam n = M at *
  have hpf := pf_ok (n := M) hM0 (by omega)
  have key : Tt () (m_power_order a n) fun r _ => ∃ K : Nat, r = (K : Int) ∧ 0 < K ∧ K ≤ 20000 ∧ a ^ K % n = 1 ∧ ∀ q, Pr q → K % q = 0 → a ^ (K / q) % n ≠ 1 := by
    unfold m_power_order
    refine (tt_lft (common_divisor_ok (by omega))).mpr (Tt.neg (by rw [hg]; decide) ((tt_lft hgo).mpr (tt_bnd.mpr ((tt_lft (po hM0 hM)).mpr (Tt.then (P' := fun r _ => ∃ K : Nat, r = (K : Int) ∧ 0 < K ∧ K ≤ 20000 ∧ a ^ K % n = 1 ∧ ∀ q, Pr q → K % q = 0 → a ^ (K / q) % n ≠ 1) ?_ fun r _ q => tt_bnd.mpr (tt_pure.mpr q))))))
    refine Tt.mono (Tt.lp (I := fun (l : List (Int × Int)) (st : Int) _ => ∃ (r : List (Nat × Nat)) (K : Nat), l = r.map pairI ∧ st = (K : Int) ∧ (∀ y ∈ r, y ∈ pf M) ∧ 0 < K ∧ K ∣ M ∧ a ^ K % n = 1 ∧ ∀ q, Pr q → K % q = 0 → (∃ k, (q, k) ∈ r) ∨ a ^ (K / q) % n ≠ 1) ?_ _ _ _ ⟨pf M, M, rfl, rfl, fun y hy => hy, hM0, Nat.dvd_refl _, h, fun q hq hd => .inl ⟨vp q M, (hpf.m _ _).mpr ⟨hq, Nat.dvd_of_mod_eq_zero hd, rfl⟩⟩⟩) ?_
    · rintro x xs st s ⟨r, K, e, rfl, hr, hK0, hKM, hKa, hKq⟩
      cases r with
      | nil => cases e
      | cons y r =>
        rw [List.map_cons] at e
        injection e with e1 e2
        subst e1 e2
        have hy := hr y (List.mem_cons_self ..)
        have hyl := pf_low hM0 hM y hy
        have hyp : Pr y.1 := ((hpf.m y.1 y.2).mp hy).1
        refine Tt.then (P' := fun r' _ => ∃ K' : Nat, r' = (K' : Int) ∧ 0 < K' ∧ K' ∣ K ∧ a ^ K' % n = 1 ∧ (K' % y.1 = 0 → a ^ (K' / y.1) % n ≠ 1)) ?_ ?_
        · refine Tt.wh (I := fun (st : Int) _ => ∃ K' : Nat, st = (K' : Int) ∧ 0 < K' ∧ K' ∣ K ∧ a ^ K' % n = 1) (nu := fun st => st.toNat) ?_ many _ _ ⟨K, rfl, hK0, Nat.dvd_refl _, hKa⟩ (lt_many (by have := Nat.le_of_dvd hM0 hKM; show K < _; omega))
          rintro st s1 k P ⟨K', rfl, h0, hd, he⟩ hk
          have hKle := Nat.le_of_dvd hK0 hd
          have hMle := Nat.le_of_dvd hM0 hKM
          refine tt_grd.mpr ⟨by show (0 : Int) < (y.1 : Int); omega, ?_⟩
          by_cases z : K' % y.1 = 0
          · refine Tt.then (P' := fun b _ => b = decide (a ^ (K' / y.1) % n = 1)) ?_ ?_
            · refine Tt.pos (by rw [decide_eq_true_iff]; show (K' : Int) % (y.1 : Int) = 0; omega) (tt_grd.mpr ⟨dv_nat (by omega) (by omega), ?_⟩)
              show Tt s1 (Mir.lft (m_power_rest a ((K' : Int) / (y.1 : Int)) n) >>= _) _
              rw [ndiv]
              have : K' / y.1 ≤ K' := Nat.div_le_self _ _
              refine (tt_lft (power_rest_ok (by omega) (by omega) (by omega))).mpr (tt_grd.mpr ⟨by omega, tt_pure.mpr ?_⟩)
              rw [one_mod hn]
              exact decide_eq_decide.mpr (by omega)
            · rintro b s2 rfl
              refine hk _ _ (fun ht => ?_) (fun ht => ?_)
              · rw [decide_eq_true_iff] at ht
                have h3 : 0 < K' / y.1 := Nat.div_pos (Nat.le_of_dvd h0 (Nat.dvd_of_mod_eq_zero z)) (by omega)
                have h4 : K' / y.1 < K' := Nat.div_lt_self h0 (by omega)
                refine tt_grd.mpr ⟨dv_nat (by omega) (by omega), tt_bnd.mpr (tt_pure.mpr ⟨⟨K' / y.1, by show (K' : Int) / (y.1 : Int) = _; rw [ndiv], h3, Nat.dvd_trans ⟨y.1, (Nat.div_mul_cancel (Nat.dvd_of_mod_eq_zero z)).symm⟩ hd, ht⟩, ?_⟩)⟩
                show ((K' : Int) / (y.1 : Int)).toNat < (K' : Int).toNat
                rw [ndiv]; omega
              · rw [decide_eq_false_iff_not] at ht
                exact ⟨K', rfl, h0, hd, he, fun _ => ht⟩
          · refine Tt.then (P' := fun b _ => b = false) (Tt.neg (by rw [decide_eq_true_iff]; show ¬ (K' : Int) % (y.1 : Int) = 0; omega) (tt_pure.mpr rfl)) ?_
            rintro b s2 rfl
            refine hk _ _ (fun ht => nomatch ht) (fun _ => ?_)
            exact ⟨K', rfl, h0, hd, he, fun hz => absurd hz z⟩
        · rintro r' _ ⟨K', rfl, h0, hd, he, hz⟩
          refine tt_pure.mpr ⟨r, K', rfl, rfl, fun w hw => hr w (List.mem_cons_of_mem _ hw), h0, Nat.dvd_trans hd hKM, he, fun q hq hqd => ?_⟩
          by_cases c : q = y.1
          · subst c; exact .inr (hz hqd)
          · have hqK : K % q = 0 := Nat.mod_eq_zero_of_dvd (Nat.dvd_trans (Nat.dvd_of_mod_eq_zero hqd) hd)
            rcases hKq q hq hqK with ⟨k, hk⟩ | hne
            · rcases List.mem_cons.mp hk with w | w
              · exact absurd (congrArg Prod.fst w) c
              · exact .inl ⟨k, w⟩
            · right
              intro e
              refine hne ?_
              obtain ⟨c1, hc1⟩ := Nat.dvd_of_mod_eq_zero hqd
              obtain ⟨c2, hc2⟩ := hd
              have e3 : K' / q = c1 := by rw [hc1, Nat.mul_div_cancel_left _ hq.pos]
              have e4 : K / q = c1 * c2 := by rw [hc2, hc1, Nat.mul_assoc, Nat.mul_div_cancel_left _ hq.pos]
              rw [e3] at e
              rw [e4]
              have := pow_mul_one (n := n) (a := a) (x := c1) (y := c1 * c2) (by rw [e, Nat.mod_eq_of_lt (by omega)]) ⟨c2, rfl⟩
              rw [this, Nat.mod_eq_of_lt (by omega)]
    · rintro st s ⟨r, K, e, rfl, hr, hK0, hKM, hKa, hKq⟩
      have : r = [] := List.map_eq_nil_iff.mp e.symm
      subst this
      refine ⟨K, rfl, hK0, Nat.le_trans (Nat.le_of_dvd hM0 hKM) hM, hKa, fun q hq hd => ?_⟩
      rcases hKq q hq hd with ⟨k, hk⟩ | hne
      · exact nomatch hk
      · exact hne
  obtain ⟨r, e, K, rfl, h1⟩ := tt_ex key
  exact ⟨K, e, h1⟩
theorem order_both {a n : Nat} (hn : 2 ≤ n) (hn2 : n ≤ 20000) (ha : a ≤ 20000) (hl : LOk n) (hM : lam n ≤ 20000) (hg : Nat.gcd a n = 1) (h : a ^ lam n % n = 1) :
    ∃ K : Nat, m_power_order a n = some (K : Int) ∧ m__law_order a n = some (K : Int) ∧ 0 < K ∧ ∀ m, a ^ m % n = 1 ↔ K ∣ m := by
  obtain ⟨K, h1, h2, h3, h4, h5⟩ := power_order_ok hn hn2 hl hM hg h
  have e1 : 1 % n = 1 := Nat.mod_eq_of_lt (by omega)
  have hd : ∀ m, a ^ m % n = 1 → K ∣ m := fun m hm => order_dvd h2 (by rw [h4, e1]) (fun q hq hz => by rw [e1]; exact h5 q hq hz) (by rw [hm, e1])
  refine ⟨K, h1, law_order_ok hn hn2 ha h2 h3 h4 (fun j hj hjK e => ?_), h2, fun m => ⟨hd m, fun hm => ?_⟩⟩
  · have := Nat.le_of_dvd hj (hd j e)
    omega
  · have := pow_mul_one (n := n) (a := a) (by rw [h4, e1]) hm
    rw [this, e1]
end Wk
set_option Elab.async false
set_option maxRecDepth 100000
set_option maxHeartbeats 4000000
set_option linter.all false
/-! A91c: counts of orders, numbers as prime, showing bases -/
namespace Wk
open PySem L2
open PyProof.Rows hiding St
/-- how many divisors -/
def pk (l : List (Nat × Nat)) : Nat := l.foldr (fun y a => (y.2 + 1) * a) 1
def dmI (acc : List Nat) (p k : Nat) : List Nat := (List.range k).foldl (fun lo j => lo ++ acc.map fun d => d * p ^ j) []
def dm (l : List (Nat × Nat)) : List Nat := l.foldl (fun acc y => dmI acc y.1 (y.2 + 1)) [1]
theorem dmI_s (acc : List Nat) (p k : Nat) : dmI acc p (k + 1) = dmI acc p k ++ acc.map fun d => d * p ^ k := by
  unfold dmI
  rw [List.range_succ, List.foldl_append]
  rfl
theorem dmI_len (acc : List Nat) (p : Nat) : ∀ k, (dmI acc p k).length = k * acc.length
  | 0 => by simp [dmI]
  | k + 1 => by rw [dmI_s, List.length_append, dmI_len acc p k, List.length_map, Nat.succ_mul]
theorem mem_dmI {acc : List Nat} {p x : Nat} : ∀ {k : Nat}, x ∈ dmI acc p k ↔ ∃ j, j < k ∧ ∃ d ∈ acc, x = d * p ^ j
  | 0 => by simp [dmI]
  | k + 1 => by
    rw [dmI_s, List.mem_append, mem_dmI, List.mem_map]
    constructor
    · rintro (⟨j, hj, d, hd, e⟩ | ⟨d, hd, e⟩)
      · exact ⟨j, by omega, d, hd, e⟩
      · exact ⟨k, by omega, d, hd, e.symm⟩
    · rintro ⟨j, hj, d, hd, e⟩
      by_cases z : j = k
      · subst z; exact .inr ⟨d, hd, e.symm⟩
      · exact .inl ⟨j, by omega, d, hd, e⟩
theorem pk_pos : ∀ l : List (Nat × Nat), 0 < pk l
  | [] => by decide
  | y :: l => Nat.mul_pos (by omega) (pk_pos l)
/-- the loop over one list of divisors -/
theorem divisors_made_ok {l : List (Nat × Nat)} (hl : ∀ y ∈ l, y.1 ≤ 20000 ∧ 1 ≤ y.1 ∧ y.2 ≤ 20) (hn : l.length ≤ 20) (hk : pk l ≤ 500) : m_divisors_made (l.map pairI) = some (srt (ci (dm l))) := by
  unfold m_divisors_made dm
  refine tt_eq (tt_grd.mpr ⟨by simp, tt_bnd.mpr (Tt.then (P' := fun st _ => st = ci (dm l)) ?_ ?_)⟩)
  · refine Tt.fold (μ := Option) pairI ci (fun acc y => dmI acc y.1 (y.2 + 1)) (fun z r => z.length * pk r ≤ 500 ∧ r.length ≤ 20 ∧ (∀ x ∈ r, x ∈ l) ∧ ∀ d ∈ z, d ≤ 10 ^ (5 * 20 * (20 - r.length))) ?_ l [1] () ⟨by simpa using hk, hn, fun x hx => hx, fun d hd => by
      rw [List.mem_singleton.mp hd]; exact Nat.pow_pos (by decide)⟩ fun _ => rfl
    rintro y r z s P ⟨h1, h2, h3, h4⟩ hq
    rw [List.length_cons] at h2 h4
    have hy := hl y (h3 y (List.mem_cons_self ..))
    have h1 : z.length * ((y.2 + 1) * pk r) ≤ 500 := h1
    have hpr := pk_pos r
    have hz5 : (y.2 + 1) * z.length ≤ 500 := by
      have : (y.2 + 1) * z.length * 1 ≤ (y.2 + 1) * z.length * pk r := Nat.mul_le_mul_left _ hpr
      have e : (y.2 + 1) * z.length * pk r = z.length * ((y.2 + 1) * pk r) := by rw [Nat.mul_comm (y.2 + 1) z.length, Nat.mul_assoc]
      omega
    have hzl : z.length ≤ 500 := by
      have : 1 * z.length ≤ (y.2 + 1) * z.length := Nat.mul_le_mul_right _ (by omega)
      omega
    have hpw : ∀ j, j ≤ y.2 → y.1 ^ j ≤ 10 ^ (5 * 20) := fun j hj => by
      refine Nat.le_trans (Nat.pow_le_pow_left (show y.1 ≤ 10 ^ 5 by omega) j) ?_
      rw [← Nat.pow_mul]
      exact Nat.pow_le_pow_right (by decide) (by omega)
    have e10 : 10 ^ (5 * 20 * (20 - r.length)) = 10 ^ (5 * 20 * (20 - (r.length + 1))) * 10 ^ (5 * 20) := by rw [← Nat.pow_add]; congr 1; omega
    refine tt_grd.mpr ⟨by simp, tt_bnd.mpr (tt_grd.mpr ⟨⟨by show -(2 ^ 62) ≤ (y.2 : Int) + 1; omega, by show (y.2 : Int) + 1 < 2 ^ 62; omega⟩, Tt.then (P' := fun st _ => st = ci (dmI z y.1 (y.2 + 1))) ?_ ?_⟩)⟩
    · refine (Tt.rg (I := fun (x : Int) (st : List Int) _ => ∃ j : Nat, x = j ∧ st = ci (dmI z y.1 j)) ?_ (y.2 + 1) 0 _ _ (by show (0 : Int) + ((y.2 + 1 : Nat) : Int) = (y.2 : Int) + 1; omega) ⟨0, rfl, rfl⟩).mono fun st _ => ?_
      · rintro x st s1 hx ⟨j, rfl, rfl⟩
        have hx : (j : Int) < (y.2 : Int) + 1 := hx
        refine tt_grd.mpr ⟨by rw [ci_len]; omega, tt_map (xs := ci z) (g := fun d : Int => d * ((y.1 ^ j : Nat) : Int)) (fun d hd s2 Q hQ => ?_) ?_⟩
        · obtain ⟨w, hw, rfl⟩ := List.mem_map.mp hd
          have hw4 := h4 w hw
          refine (tt_lft (power_of_ok (a := y.1) (k := j) (by omega) (by omega))).mpr (tt_grd.mpr ⟨⟨sm_lt (b := 10 ^ 2000) ?_ (by decide +kernel), sm_pow (hpw j (by omega)) (by omega)⟩, tt_pure.mpr hQ⟩)
          rw [Int.natAbs_natCast]
          exact Nat.le_trans hw4 (Nat.pow_le_pow_right (by decide) (by omega))
        · have e2 : (ci z).map (fun d : Int => d * ((y.1 ^ j : Nat) : Int)) = ci (z.map fun d => d * y.1 ^ j) := by
            unfold ci
            rw [List.map_map, List.map_map]
            apply List.map_congr_left
            intro d _
            show (d : Int) * ((y.1 ^ j : Nat) : Int) = ((d * y.1 ^ j : Nat) : Int)
            rw [Int.natCast_mul]
          rw [e2, ← ci_app, ← dmI_s]
          refine tt_grd.mpr ⟨?_, tt_bnd.mpr (tt_pure.mpr ⟨j + 1, by omega, rfl⟩)⟩
          rw [ci_len, ci_len, dmI_len, List.length_map]
          have : j * z.length ≤ (y.2 + 1) * z.length := Nat.mul_le_mul_right _ (by omega)
          omega
      · rintro ⟨j, e, rfl⟩
        have e : (y.2 : Int) + 1 = j := e
        have : j = y.2 + 1 := by omega
        rw [this]
    · rintro st _ rfl
      refine tt_bnd.mpr (tt_pure.mpr (hq ⟨?_, by omega, fun x hx => h3 x (List.mem_cons_of_mem _ hx), fun d hd => ?_⟩))
      · rw [dmI_len]
        have e : (y.2 + 1) * z.length * pk r = z.length * ((y.2 + 1) * pk r) := by rw [Nat.mul_comm (y.2 + 1) z.length, Nat.mul_assoc]
        omega
      · obtain ⟨j, hj, w, hw, rfl⟩ := mem_dmI.mp hd
        rw [e10]
        exact Nat.mul_le_mul (h4 w hw) (hpw j (by omega))
  · rintro st _ rfl
    exact tt_bnd.mpr (tt_pure.mpr rfl)
/-! ### orders counted -/
def cnt (n : Nat) (o : Nat) : Nat := (lens n).foldl (fun c x => c * Nat.gcd o x) 1
def ocs (n : Nat) (found : List (Int × Int)) (o : Int) : List (Int × Int) := found ++ [(o, (cnt n o.toNat : Int) - List.sum ((found.filter fun x => decide (o % x.1 = 0)).map fun x => x.2))]
def oc (n : Nat) : List (Int × Int) := (srt (ci (dm (pf (lam n))))).foldl (ocs n) []
theorem pk_foldl : ∀ (l : List (Nat × Nat)) (a : Nat), l.foldl (fun a y => a * (y.2 + 1)) a = a * pk l
  | [], a => by show a = a * 1; omega
  | y :: l, a => by
    show l.foldl (fun a y => a * (y.2 + 1)) (a * (y.2 + 1)) = a * ((y.2 + 1) * pk l)
    rw [pk_foldl l, Nat.mul_assoc]
theorem filt_map {f : Int × Int → Bool} : ∀ l : List (Int × Int), l.filterMap (fun x => if f x = true then some x.2 else none) = (l.filter f).map fun x => x.2
  | [] => rfl
  | x :: l => by
    rw [List.filterMap_cons, List.filter_cons]
    cases e : f x with
    | true => rw [if_pos rfl, if_pos rfl, List.map_cons, filt_map l]
    | false => rw [if_neg (by decide), if_neg (by decide), filt_map l]
theorem dm_pos {l : List (Nat × Nat)} (hl : ∀ y ∈ l, 1 ≤ y.1) : ∀ d ∈ dm l, 1 ≤ d := by
  have : ∀ (l : List (Nat × Nat)) (acc : List Nat), (∀ y ∈ l, 1 ≤ y.1) → (∀ d ∈ acc, 1 ≤ d) → ∀ d ∈ l.foldl (fun acc y => dmI acc y.1 (y.2 + 1)) acc, 1 ≤ d := by
    intro l
    induction l with
    | nil => intro acc _ h; exact h
    | cons y l ih =>
      intro acc h1 h2
      refine ih _ (fun z hz => h1 z (List.mem_cons_of_mem _ hz)) fun d hd => ?_
      obtain ⟨j, _, w, hw, rfl⟩ := mem_dmI.mp hd
      exact Nat.mul_pos (h2 w hw) (Nat.pow_pos (h1 y (List.mem_cons_self ..)))
  exact this l [1] hl fun d hd => by rw [List.mem_singleton.mp hd]; exact Nat.le_refl _
theorem dm_len : ∀ (l : List (Nat × Nat)) (acc : List Nat), (l.foldl (fun acc y => dmI acc y.1 (y.2 + 1)) acc).length = acc.length * pk l
  | [], acc => by show acc.length = acc.length * 1; omega
  | y :: l, acc => by
    show (l.foldl _ (dmI acc y.1 (y.2 + 1))).length = acc.length * ((y.2 + 1) * pk l)
    rw [dm_len l, dmI_len, Nat.mul_comm (y.2 + 1), Nat.mul_assoc]
theorem order_counts_ok {n : Nat} (hn : 2 ≤ n) (h : n ≤ 20000) (hl : LOk n) (hM : lam n ≤ 20000) (hk : pk (pf (lam n)) ≤ 500) : m_order_counts n = some (oc n) ∧ (oc n).length ≤ 500 ∧ ∀ x ∈ oc n, 0 < x.1 := by
  obtain ⟨hgo, hM0⟩ := greatest_order_ok hn h hl
  have hlow := pf_low hM0 hM
  have hpl := pf_len hM0 hM
  have hsp : (srt (ci (dm (pf (lam n))))).Perm (ci (dm (pf (lam n)))) := srt_perm _
  have hdl : (dm (pf (lam n))).length ≤ 500 := by
    unfold dm
    rw [dm_len]
    simpa using hk
  have hpos : ∀ x ∈ srt (ci (dm (pf (lam n)))), ∃ w : Nat, x = (w : Int) ∧ 0 < w := fun x hx => by
    obtain ⟨w, hw, rfl⟩ := List.mem_map.mp (hsp.mem_iff.mp hx)
    exact ⟨w, rfl, dm_pos (fun y hy => by have := hlow y hy; omega) w hw⟩
  have key : Tt () (m_order_counts n) fun a _ => a = oc n ∧ (oc n).length ≤ 500 ∧ ∀ x ∈ oc n, 0 < x.1 := by
    unfold m_order_counts
    refine (tt_lft hgo).mpr ((tt_lft (po hM0 hM)).mpr (tt_bnd.mpr (tt_bnd.mpr (Tt.then (Tt.prod (P := fun st _ => st = ((pk (pf (lam n)) : Nat) : Int)) pairI (fun y => y.2 + 1) (pf (lam n)) (by omega) (fun y hy => by have := hlow y hy; omega) (fun y hy z P hz hP => ?_) fun _ => ?_) ?_))))
    · have hy := hlow y hy
      refine tt_grd.mpr ⟨⟨hz, ?_⟩, tt_bnd.mpr (tt_pure.mpr ?_)⟩
      · show Sm ((y.2 : Int) + 1)
        exact sm_nat (a := y.2 + 1) (by omega)
      · rw [Int.natCast_mul] at hP; exact hP
    · rw [pk_foldl, Nat.one_mul]
    · rintro st _ rfl
      refine Tt.neg (by rw [decide_eq_true_iff]; omega) ((tt_lft (round_lengths_ok hn h)).mpr (tt_bnd.mpr (tt_grd.mpr ⟨by simp, tt_bnd.mpr ((tt_lft (divisors_made_ok (l := pf (lam n)) (fun y hy => by have := hlow y hy; omega) (by omega) hk)).mpr (Tt.then (P' := fun st _ => st = oc n ∧ (oc n).length ≤ 500 ∧ ∀ x ∈ oc n, 0 < x.1) ?_ fun st _ q => tt_bnd.mpr (tt_pure.mpr q)))⟩)))
      have e0 : srt (ci (dm (pf (lam n)))) = (srt (ci (dm (pf (lam n))))).map id := by rw [List.map_id]
      rw [e0]
      refine Tt.fold (μ := Option) id id (ocs n) (fun z r => z.length + r.length ≤ 500 ∧ (∀ x ∈ r, x ∈ srt (ci (dm (pf (lam n))))) ∧ ∀ x ∈ z, 0 < x.1) ?_ _ [] () ⟨by rw [hsp.length_eq, ci_len]; simpa using hdl, fun x hx => hx, fun x hx => nomatch hx⟩ fun q => ⟨rfl, q.1, q.2.2⟩
      rintro o r z s P ⟨h1, h2, h3⟩ hq
      rw [List.length_cons] at h1
      obtain ⟨w, hw, hw0⟩ := hpos o (h2 o (List.mem_cons_self ..))
      have hq2 := hq ⟨by unfold ocs; rw [List.length_append]; simp; omega, fun x hx => h2 x (List.mem_cons_of_mem _ hx), fun x hx => by
        unfold ocs at hx
        rcases List.mem_append.mp hx with y | y
        · exact h3 x y
        · rw [List.mem_singleton.mp y, hw]; show (0 : Int) < (w : Int); omega⟩
      subst hw
      show Tt s (bnd (1 : Int) fun count => _) P
      refine tt_bnd.mpr (Tt.then (Tt.prod (P := fun st _ => st = ((cnt n w : Nat) : Int)) (fun x : Nat => (x : Int)) (fun x => Nat.gcd w x) (lens n) (by have := hl.1; omega) (fun x hx => by have := hl.2 x hx; exact gcd_le (by omega) (by omega)) (fun x hx z' P' hz' hP' => ?_) fun _ => rfl) ?_)
      · have hx2 := hl.2 x hx
        refine (tt_lft (common_divisor_ok (a := w) (b := x) (by omega))).mpr (tt_grd.mpr ⟨⟨hz', sm_nat ?_⟩, tt_bnd.mpr (tt_pure.mpr ?_)⟩)
        · have : Nat.gcd w x ≤ 20000 := gcd_le (by omega) (by omega)
          omega
        · rw [← Int.natCast_mul]; exact hP'
      · rintro st _ rfl
        refine tt_grd.mpr ⟨by show z.length ≤ _; omega, tt_filterMap (xs := z) (g := fun x => if decide ((w : Int) % x.1 = 0) = true then some x.2 else none) (fun x hx s2 Q hQ => ?_) ?_⟩
        · refine tt_grd.mpr ⟨h3 x hx, ?_⟩
          by_cases c : decide ((w : Int) % x.1 = 0) = true
          · rw [if_pos c] at hQ
            exact Tt.pos c (tt_pure.mpr hQ)
          · rw [if_neg c] at hQ
            exact Tt.neg c (tt_pure.mpr hQ)
        · rw [filt_map]
          refine tt_grd.mpr ⟨by show z.length < _; omega, tt_bnd.mpr (tt_pure.mpr ?_)⟩
          exact hq2
  obtain ⟨r, e, rfl, h1, h2⟩ := tt_ex key
  exact ⟨e, h1, h2⟩
end Wk
set_option Elab.async false
set_option maxRecDepth 100000
set_option maxHeartbeats 4000000
set_option linter.all false
/-! A92d: rests, figures -/
namespace Wk
open PySem L2
open PyProof.Rows hiding St
theorem gcd_of_ok {a b : Nat} (hb : b < 10 ^ 40) : m_gcd_of a b = some ((Nat.gcd a b : Nat) : Int) := by
  have e : m_gcd_of a b = m_common_divisor a b := by unfold m_gcd_of m_common_divisor; rfl
  rw [e, common_divisor_ok hb]
/-- the rests of figures -/
def rsf (n base above : Nat) : Nat → Nat
  | 0 => above
  | k + 1 => base * rsf n base above k % n
theorem rsf_lt {n base above : Nat} (h : above < n) : ∀ k, rsf n base above k < n
  | 0 => h
  | k + 1 => Nat.mod_lt _ (by omega)
theorem rsf_eq {n base above : Nat} : ∀ k, rsf n base above k % n = above * base ^ k % n
  | 0 => by show above % n = above * base ^ 0 % n; rw [Nat.pow_zero, Nat.mul_one]
  | k + 1 => by
    show base * rsf n base above k % n % n = above * base ^ (k + 1) % n
    rw [Nat.mod_mod, Nat.mul_mod, rsf_eq k, ← Nat.mul_mod, Nat.pow_succ, Nat.mul_comm, Nat.mul_assoc]
def figs (n base above many : Nat) : List Int := (List.range many).map fun i => ((base * rsf n base above i / n : Nat) : Int)
theorem figures_of_ok {above n base many : Nat} (hn : above < n) (hn2 : n ≤ 10 ^ 6) (hb : base ≤ 10 ^ 6) (hm : many ≤ 10 ^ 6) : m_figures_of above n base many = some (figs n base above many) := by
  unfold m_figures_of
  refine tt_eq (tt_grd.mpr ⟨by simp, tt_bnd.mpr (tt_bnd.mpr (tt_grd.mpr ⟨⟨by omega, by omega⟩, Tt.then (P' := fun st _ => st.1 = figs n base above many) ?_ fun st _ e => tt_bnd.mpr (tt_pure.mpr e)⟩))⟩)
  refine (Tt.rg (I := fun (x : Int) (st : List Int × Int) _ => ∃ k : Nat, x = k ∧ k ≤ many ∧ st = (figs n base above k, (rsf n base above k : Int))) ?_ many 0 _ _ (by omega) ⟨0, rfl, by omega, rfl⟩).mono fun st _ ⟨k, e, _, e2⟩ => by
    have : k = many := by omega
    rw [e2, this]
  rintro x st s hx ⟨k, rfl, hk, rfl⟩
  have hr := rsf_lt (base := base) hn k
  have sb : Sm (base : Int) := sm_nat (by omega)
  have sr : Sm (rsf n base above k : Int) := sm_nat (by omega)
  have hl : (figs n base above k).length = k := by unfold figs; rw [List.length_map, List.length_range]
  refine tt_grd.mpr ⟨⟨sb, sr⟩, tt_grd.mpr ⟨dv_nat (by omega) (by omega), tt_grd.mpr ⟨by show (figs n base above k).length < _; rw [hl]; omega, tt_bnd.mpr (tt_grd.mpr ⟨⟨sb, sr⟩, tt_grd.mpr ⟨by omega, tt_bnd.mpr (tt_pure.mpr ⟨k + 1, by push_cast; rfl, by omega, ?_⟩)⟩⟩)⟩⟩⟩
  refine Prod.ext ?_ ?_
  · show figs n base above k ++ [(base : Int) * (rsf n base above k : Int) / (n : Int)] = figs n base above (k + 1)
    unfold figs
    rw [List.range_succ, List.map_append, ← Int.natCast_mul, ndiv]
    rfl
  · show (base : Int) * (rsf n base above k : Int) % (n : Int) = ((base * rsf n base above k % n : Nat) : Int)
    rw [← Int.natCast_mul, nmod]
end Wk
set_option Elab.async false
set_option maxRecDepth 100000
set_option maxHeartbeats 4000000
set_option linter.all false
/-! A92e: figures that come again -/
namespace Wk
open PySem L2
open PyProof.Rows hiding St
local macro_rules | `(tactic| walk_at "gd") => `(tactic| first | decide | omega | exact sm_small (by omega) | exact ⟨sm_small (by omega), sm_small (by omega)⟩ | exact dv_s (by omega) (by omega) | exact ⟨by omega, by omega⟩ | exact ⟨⟨by omega, by omega⟩, ⟨by omega, by omega⟩⟩ | (simp; done) | (simp; omega) | exact ⟨by decide, by decide, by simp; done⟩ | exact ⟨by decide, by decide, by simp; omega⟩)
local macro_rules | `(tactic| walk_at "g1") => `(tactic| first | with_reducible refine tt_bnd.mpr ?_ | (with_reducible refine tt_grd.mpr (And.intro ?_ ?_); focus (walk_at "gd"; done)) | with_reducible refine (tt_lft (by assumption)).mpr ?_ | (with_reducible refine tt_grP.mpr (And.intro ?_ ?_); focus (rfl; done)) | with_reducible refine Tt.neg Bool.false_ne_true ?_ | with_reducible refine Tt.neg (by with_reducible assumption) ?_ | with_reducible refine Tt.pos (by with_reducible assumption) ?_)
local macro_rules | `(tactic| walk_at "go") => `(tactic| repeat walk_at "g1")
theorem cut_from {xs : List Int} {j : Nat} (h : j ≤ xs.length) : cut xs (some (j : Int)) none = xs.drop j := by
  unfold cut HT.sIx
  simp only []
  have e2 : min (j : Int).toNat xs.length = j := by simp; omega
  rw [if_neg (by omega), e2, List.take_of_length_le (by simp)]
/-- the part that shares nothing with the base -/
def prt (base : Nat) : Nat → Nat → Nat
  | 0, m => m
  | f + 1, m => if Nat.gcd m base ≤ 1 then m else prt base f (m / Nat.gcd m base)
theorem prt_ok {base : Nat} : ∀ {f m : Nat}, 0 < m → m < 2 ^ f → Nat.gcd (prt base f m) base ≤ 1 ∧ prt base f m ∣ m ∧ m ∣ prt base f m * base ^ f
  | 0, m, h0, h => absurd h0 (by simp at h; omega)
  | f + 1, m, h0, h => by
    unfold prt
    by_cases z : Nat.gcd m base ≤ 1
    · rw [if_pos z]
      exact ⟨z, Nat.dvd_refl _, Nat.dvd_mul_right _ _⟩
    · rw [if_neg z]
      obtain ⟨c, hc⟩ := Nat.gcd_dvd_left m base
      obtain ⟨d, hd⟩ := Nat.gcd_dvd_right m base
      have hg : 0 < Nat.gcd m base := by omega
      have e : m / Nat.gcd m base = c := by
        conv => lhs; lhs; rw [hc]
        exact Nat.mul_div_cancel_left _ hg
      rw [e]
      have hc0 : 0 < c := Nat.pos_of_ne_zero fun q => by rw [q, Nat.mul_zero] at hc; omega
      have h2 : 2 * c ≤ m := by
        have : 2 * c ≤ Nat.gcd m base * c := Nat.mul_le_mul_right _ (by omega)
        omega
      obtain ⟨h3, h4, h5⟩ := prt_ok (base := base) (f := f) hc0 (by rw [Nat.pow_succ] at h; omega)
      refine ⟨h3, Nat.dvd_trans h4 ⟨Nat.gcd m base, by rw [Nat.mul_comm]; exact hc⟩, ?_⟩
      rw [hc, Nat.pow_succ, ← Nat.mul_assoc, Nat.mul_comm (Nat.gcd m base)]
      exact Nat.mul_dvd_mul h5 (Nat.gcd_dvd_right m base)
theorem prt_loop {μ : Type → Type} {τ : Type} [Mir μ τ] {cd : Int → Int → Option Int} (hcd : ∀ a b : Nat, b < 10 ^ 40 → cd a b = some ((Nat.gcd a b : Nat) : Int)) {n base : Nat} (hn : 0 < n) (hn2 : n < 2 ^ 20) (hb : base ≤ 10 ^ 6)
    {P : Int → τ → Prop} {s : τ} (hP : P ((prt base 20 n : Nat) : Int) s) :
    Tt s (whS (μ := μ) many (fun (st : Int) k => Mir.lft (cd st base) >>= fun r => k (decide ((1 : Int) < r))) (fun (st : Int) => Mir.lft (cd st base) >>= fun r => Mir.lft (grd (Dv r)) >>= fun _ => bnd (st / r) fun x => pure x) (n : Int)) P := by
  refine Tt.whI (fun j st s' => ∃ m : Nat, st = (m : Int) ∧ 0 < m ∧ m < 2 ^ j ∧ m ≤ n ∧ prt base j m = prt base 20 n ∧ s' = s) ?_ many 20 _ _ ⟨n, rfl, hn, hn2, Nat.le_refl _, rfl, rfl⟩ (lt_many (by decide))
  rintro j st s' k Q ⟨m, rfl, h0, h1, h2, h3, rfl⟩ hk
  refine (tt_lft (hcd m base (by omega))).mpr (hk _ _ (fun ht => ?_) (fun ht => ?_))
  · have hg : 1 < Nat.gcd m base := by have := of_decide_eq_true ht; omega
    have hgm : Nat.gcd m base ≤ m := Nat.le_of_dvd h0 (Nat.gcd_dvd_left m base)
    refine (tt_lft (hcd m base (by omega))).mpr (tt_grd.mpr ⟨dv_nat (by omega) (by omega), tt_bnd.mpr (tt_pure.mpr ?_)⟩)
    cases j with
    | zero => exact absurd h1 (by rw [Nat.pow_zero]; omega)
    | succ j =>
      refine ⟨j, Nat.lt_succ_self j, m / Nat.gcd m base, by rw [ndiv], Nat.div_pos hgm (by omega), ?_, ?_, ?_, rfl⟩
      · have : m / Nat.gcd m base ≤ m / 2 := Nat.div_le_div_left hg (by decide)
        rw [Nat.pow_succ] at h1; omega
      · exact Nat.le_trans (Nat.div_le_self _ _) h2
      · rw [← h3]
        conv => rhs; unfold prt
        rw [if_neg (by omega)]
  · have hg : ¬ 1 < Nat.gcd m base := by have := of_decide_eq_false ht; omega
    have : prt base j m = m := by
      cases j with
      | zero => rfl
      | succ j => unfold prt; rw [if_pos (by omega)]
    rw [← h3, this] at hP
    exact hP
/-- how many figures are ahead -/
structure Ah (n base p T : Nat) : Prop where
  d : n ∣ p * base ^ T
  m : ∀ j, j < T → ¬ n ∣ p * base ^ j
  l : T ≤ 20
theorem ah_ex {n base p : Nat} (h : n ∣ p * base ^ 20) : ∃ T, Ah n base p T := by
  obtain ⟨T, h1, h2, h3⟩ := least (P := fun t => n ∣ p * base ^ t) h
  exact ⟨T, h2, h3, h1⟩
theorem sm_bp {p base k : Nat} (hp : p ≤ 10 ^ 6) (hb : base ≤ 10 ^ 6) (hk : k ≤ 20) : Sm ((p * base ^ k : Nat) : Int) := by
  refine sm_pow (k := 6 + 6 * 20) ?_ (by decide)
  rw [Nat.pow_add, Nat.pow_mul]
  refine Nat.mul_le_mul hp (Nat.le_trans (Nat.pow_le_pow_left hb k) (Nat.pow_le_pow_right (by decide) hk))
theorem nd_dvd {n x : Nat} : (!decide (((x : Nat) : Int) % (n : Int) = 0)) = !decide (n ∣ x) := by
  rw [nmod]
  congr 1
  exact decide_eq_decide.mpr ⟨fun h => Nat.dvd_of_mod_eq_zero (by omega), fun h => by have := Nat.mod_eq_zero_of_dvd h; omega⟩
theorem t_loop1 {μ : Type → Type} {τ : Type} [Mir μ τ] {n base p T : Nat} (hn : 0 < n) (hp : p ≤ 10 ^ 6) (hb : base ≤ 10 ^ 6) (hT : Ah n base p T) {P : Int × Int → τ → Prop} {s : τ} (hP : P ((T : Int), ((p * base ^ T : Nat) : Int)) s) :
    Tt s (whS (μ := μ) many (fun (st : Int × Int) k => Mir.lft (grd (0 < (n : Int))) >>= fun _ => k (!decide ((st.2 % (n : Int)) = (0 : Int)))) (fun (st : Int × Int) => bnd (st.1 + (1 : Int)) fun t => Mir.lft (grd (Sm st.2 ∧ Sm (base : Int))) >>= fun _ => bnd (st.2 * (base : Int)) fun here => pure (t, here)) ((0 : Int), (p : Int))) P := by
  refine Tt.wh (fun st s' => ∃ k : Nat, st = ((k : Int), ((p * base ^ k : Nat) : Int)) ∧ k ≤ T ∧ s' = s) (fun st => T - st.1.toNat) ?_ many _ _ ⟨0, by rw [Nat.pow_zero, Nat.mul_one]; rfl, Nat.zero_le _, rfl⟩ (lt_many (by have := hT.l; show T - _ < _; omega))
  rintro st s' k Q ⟨j, rfl, hj, rfl⟩ hk
  refine tt_grd.mpr ⟨by omega, hk _ _ (fun ht => ?_) (fun ht => ?_)⟩
  · have ht : (!decide ((((p * base ^ j : Nat) : Int) % (n : Int)) = 0)) = true := ht
    rw [nd_dvd, Bool.not_eq_true', decide_eq_false_iff_not] at ht
    have hjT : j ≠ T := by rintro rfl; exact ht hT.d
    have hl := hT.l
    refine tt_bnd.mpr (tt_grd.mpr ⟨⟨sm_bp hp hb (by omega), sm_nat (by omega)⟩, tt_bnd.mpr (tt_pure.mpr ⟨⟨j + 1, ?_, by omega, rfl⟩, ?_⟩)⟩)
    · show ((j : Int) + 1, ((p * base ^ j : Nat) : Int) * (base : Int)) = _
      rw [← Int.natCast_mul, Nat.pow_succ, Nat.mul_assoc]; rfl
    · show T - ((j : Int) + 1).toNat < T - ((j : Int)).toNat
      omega
  · have ht : (!decide ((((p * base ^ j : Nat) : Int) % (n : Int)) = 0)) = false := ht
    rw [nd_dvd, Bool.not_eq_false', decide_eq_true_iff] at ht
    have : j = T := Classical.byContradiction fun z => hT.m j (by omega) ht
    rw [← this] at hP
    exact hP
theorem t_loop2 {μ : Type → Type} {τ : Type} [Mir μ τ] {n base p T : Nat} (hn : 0 < n) (hp : p ≤ 10 ^ 6) (hb : base ≤ 10 ^ 6) (hT : Ah n base p T) {P : Int × Int → τ → Prop} {s : τ} (hP : ∀ y, P ((T : Int), y) s) :
    Tt s (whS (μ := μ) many (fun (st : Int × Int) k => Mir.lft (grd (Sm st.2 ∧ Sm (p : Int))) >>= fun _ => Mir.lft (grd (0 < (n : Int))) >>= fun _ => k (!decide (((st.2 * (p : Int)) % (n : Int)) = (0 : Int)))) (fun (st : Int × Int) => Mir.lft (grd (Sm st.2 ∧ Sm (base : Int))) >>= fun _ => bnd (st.2 * (base : Int)) fun power => bnd (st.1 + (1 : Int)) fun t => pure (t, power)) ((0 : Int), (1 : Int))) P := by
  refine Tt.wh (fun st s' => ∃ k : Nat, st = ((k : Int), ((base ^ k : Nat) : Int)) ∧ k ≤ T ∧ s' = s) (fun st => T - st.1.toNat) ?_ many _ _ ⟨0, by rw [Nat.pow_zero]; rfl, Nat.zero_le _, rfl⟩ (lt_many (by have := hT.l; show T - _ < _; omega))
  rintro st s' k Q ⟨j, rfl, hj, rfl⟩ hk
  have hl := hT.l
  have hs : Sm ((base ^ j : Nat) : Int) := by
    have := sm_bp (p := 1) (by decide) hb (show j ≤ 20 by omega)
    rwa [Nat.one_mul] at this
  have e : ((base ^ j : Nat) : Int) * (p : Int) = ((p * base ^ j : Nat) : Int) := by rw [← Int.natCast_mul, Nat.mul_comm]
  refine tt_grd.mpr ⟨⟨hs, sm_nat (by omega)⟩, tt_grd.mpr ⟨by omega, hk _ _ (fun ht => ?_) (fun ht => ?_)⟩⟩
  · have ht : (!decide (((((base ^ j : Nat) : Int) * (p : Int)) % (n : Int)) = 0)) = true := ht
    rw [e, nd_dvd, Bool.not_eq_true', decide_eq_false_iff_not] at ht
    have hjT : j ≠ T := by rintro rfl; exact ht hT.d
    refine tt_grd.mpr ⟨⟨hs, sm_nat (by omega)⟩, tt_bnd.mpr (tt_bnd.mpr (tt_pure.mpr ⟨⟨j + 1, ?_, by omega, rfl⟩, ?_⟩))⟩
    · show ((j : Int) + 1, ((base ^ j : Nat) : Int) * (base : Int)) = _
      rw [← Int.natCast_mul, Nat.pow_succ]; rfl
    · show T - ((j : Int) + 1).toNat < T - ((j : Int)).toNat
      omega
  · have ht : (!decide (((((base ^ j : Nat) : Int) * (p : Int)) % (n : Int)) = 0)) = false := ht
    rw [e, nd_dvd, Bool.not_eq_false', decide_eq_true_iff] at ht
    have : j = T := Classical.byContradiction fun z => hT.m j (by omega) ht
    rw [← this] at hP
    exact hP _
/-! the rests come again -/
section
variable {n base above : Nat}
theorem rsf_one (k : Nat) : rsf n base above (k + 1) = base * rsf n base above k % n := rfl
theorem rsf_go {i k : Nat} (h : rsf n base above i = rsf n base above k) : ∀ d, rsf n base above (i + d) = rsf n base above (k + d)
  | 0 => h
  | d + 1 => by rw [← Nat.add_assoc, ← Nat.add_assoc, rsf_one, rsf_one, rsf_go h d]
theorem rsf_no {i : Nat} (h : rsf n base above i = 0) : ∀ d, rsf n base above (i + d) = 0
  | 0 => h
  | d + 1 => by rw [← Nat.add_assoc, rsf_one, rsf_no h d, Nat.mul_zero, Nat.zero_mod]
def fg (n base above i : Nat) : Int := ((base * rsf n base above i / n : Nat) : Int)
def seg (n base above a k : Nat) : List Int := (List.range k).map fun i => fg n base above (a + i)
theorem seg_len {a k : Nat} : (seg n base above a k).length = k := by unfold seg; rw [List.length_map, List.length_range]
theorem figs_seg {k : Nat} : figs n base above k = seg n base above 0 k := by
  unfold figs seg
  apply List.map_congr_left
  intro i _
  rw [Nat.zero_add]; rfl
theorem seg_app {a k j : Nat} : seg n base above a k ++ seg n base above (a + k) j = seg n base above a (k + j) := by
  unfold seg
  rw [List.range_add, List.map_append, List.map_map]
  congr 1
  apply List.map_congr_left
  intro i _
  rw [Function.comp_apply, Nat.add_assoc]
theorem seg_take {a k j : Nat} (h : j ≤ k) : (seg n base above a k).take j = seg n base above a j := by
  obtain ⟨d, rfl⟩ : ∃ d, k = j + d := ⟨k - j, by omega⟩
  rw [← seg_app, List.take_append_of_le_length (by rw [seg_len]; exact Nat.le_refl _), List.take_of_length_le (by rw [seg_len]; exact Nat.le_refl _)]
theorem seg_drop {k j : Nat} (h : j ≤ k) : (seg n base above 0 k).drop j = seg n base above j (k - j) := by
  obtain ⟨d, rfl⟩ : ∃ d, k = j + d := ⟨k - j, by omega⟩
  rw [← seg_app, List.drop_append_of_le_length (by rw [seg_len]; exact Nat.le_refl _), List.drop_of_length_le (by rw [seg_len]; exact Nat.le_refl _), List.nil_append, Nat.zero_add]
  congr 1
  omega
theorem seg_rep {j p : Nat} (h : rsf n base above (j + p) = rsf n base above j) : ∀ m, (List.replicate m (seg n base above j p)).flatten = seg n base above j (m * p)
  | 0 => by rw [Nat.zero_mul]; rfl
  | m + 1 => by
    rw [List.replicate_succ, List.flatten_cons, seg_rep h m]
    have e : seg n base above j (m * p) = seg n base above (j + p) (m * p) := by
      unfold seg
      apply List.map_congr_left
      intro i _
      unfold fg
      rw [rsf_go h i]
    rw [e, seg_app]
    congr 1
    rw [Nat.succ_mul, Nat.add_comm]
theorem seg_zero {e : Nat} (hn : 0 < n) (h : rsf n base above e = 0) (m : Nat) : (List.replicate m ([0] : List Int)).flatten = seg n base above e m := by
  have : rsf n base above (e + 1) = rsf n base above e := by rw [rsf_one, h, Nat.mul_zero, Nat.zero_mod]
  have h1 : seg n base above e 1 = [0] := by
    unfold seg fg
    show [((base * rsf n base above (e + 0) / n : Nat) : Int)] = [0]
    rw [Nat.add_zero, h, Nat.mul_zero, Nat.zero_div]; rfl
  rw [← h1, seg_rep this m, Nat.mul_one]
structure Rd4 (n base above j e : Nat) : Prop where
  le : j ≤ e
  en : e ≤ n
  ne : ∀ i, i < e → rsf n base above i ≠ 0
  un : ∀ i k, i < k → k < e → rsf n base above i ≠ rsf n base above k
  wy : (rsf n base above e = 0 ∧ j = e) ∨ (rsf n base above e ≠ 0 ∧ j < e ∧ rsf n base above e = rsf n base above j)
def plc (n base above k : Nat) : List (Int × Int) := (List.range k).map fun i => ((rsf n base above i : Int), (i : Int))
theorem plc_s (k : Nat) : plc n base above (k + 1) = plc n base above k ++ [((rsf n base above k : Int), (k : Int))] := by unfold plc; rw [List.range_succ, List.map_append]; rfl
theorem plc_any {k x : Nat} : ((plc n base above k).any fun y => decide (y.1 = (x : Int))) = true ↔ ∃ i, i < k ∧ rsf n base above i = x := by
  rw [List.any_eq_true]
  unfold plc
  constructor
  · rintro ⟨y, hy, e⟩
    obtain ⟨i, hi, rfl⟩ := List.mem_map.mp hy
    have := of_decide_eq_true e
    exact ⟨i, List.mem_range.mp hi, by have : ((rsf n base above i : Nat) : Int) = (x : Int) := this; omega⟩
  · rintro ⟨i, hi, e⟩
    exact ⟨_, List.mem_map.mpr ⟨i, List.mem_range.mpr hi, rfl⟩, decide_eq_true (by rw [e])⟩
theorem plc_none {k x : Nat} (h : ∀ i, i < k → rsf n base above i ≠ x) : dget (plc n base above k) (x : Int) = none := by
  unfold dget
  rw [List.find?_eq_none.mpr, Option.map_none]
  intro y hy
  have : ¬ ((plc n base above k).any fun y => decide (y.1 = (x : Int))) = true := fun q => by
    obtain ⟨i, hi, e⟩ := plc_any.mp q
    exact h i hi e
  intro q
  exact this (List.any_eq_true.mpr ⟨y, hy, q⟩)
theorem plc_some {k x i : Nat} (hi : i < k) (e : rsf n base above i = x) (hu : ∀ i j, i < j → j < k → rsf n base above i ≠ rsf n base above j) : dget (plc n base above k) (x : Int) = some (i : Int) := by
  induction k with
  | zero => omega
  | succ k ih =>
    unfold dget
    rw [plc_s, List.find?_append]
    by_cases z : i = k
    · subst z
      have : dget (plc n base above i) (x : Int) = none := plc_none fun j hj q => hu j i hj (by omega) (q.trans e.symm)
      unfold dget at this
      rw [Option.map_eq_none_iff] at this
      rw [this, e]
      simp
    · have := ih (by omega) fun a b h1 h2 => hu a b h1 (by omega)
      unfold dget at this
      obtain ⟨y, h1, h2⟩ := Option.map_eq_some_iff.mp this
      rw [h1]
      show some y.2 = _
      rw [h2]
theorem round_figures_ok (ha : above < n) (hn : n ≤ 400) (hb : base ≤ 1000) : ∃ j e : Nat, Rd4 n base above j e ∧ m_round_figures_of above n base = some (seg n base above 0 j, seg n base above j (e - j)) := by
  have key : Tt () (m_round_figures_of above n base) fun r _ => ∃ j e : Nat, Rd4 n base above j e ∧ r = (seg n base above 0 j, seg n base above j (e - j)) := by
    unfold m_round_figures_of
    refine tt_bnd.mpr (tt_grd.mpr ⟨by decide, tt_bnd.mpr (tt_bnd.mpr ?_)⟩)
    refine Tt.then (P' := fun o _ => ∃ k : Nat, o = Ctl.go (plc n base above k, seg n base above 0 k, (rsf n base above k : Int)) ∧ k ≤ n ∧ (∀ i, i < k → rsf n base above i ≠ 0) ∧ (∀ i j, i < j → j < k → rsf n base above i ≠ rsf n base above j) ∧ (rsf n base above k = 0 ∨ ∃ i, i < k ∧ rsf n base above i = rsf n base above k)) ?_ ?_
    · refine Tt.whC (fun st _ => ∃ k : Nat, st = (plc n base above k, seg n base above 0 k, (rsf n base above k : Int)) ∧ k ≤ n ∧ (∀ i, i < k → rsf n base above i ≠ 0) ∧ (∀ i j, i < j → j < k → rsf n base above i ≠ rsf n base above j)) (fun st => n - st.2.1.length) ?_ many _ _ ⟨0, rfl, Nat.zero_le _, fun i hi => absurd hi (Nat.not_lt_zero i), fun i j _ hj => absurd hj (Nat.not_lt_zero j)⟩ (lt_many (by show n - _ < _; omega))
      rintro st s k P ⟨x, rfl, hx, h1, h2⟩ hk
      refine hk _ _ (fun ht => ?_) (fun ht => ?_)
      · have ht : ((!decide (((rsf n base above x : Nat) : Int) = 0)) && (!Option.isSome (dget (plc n base above x) ((rsf n base above x : Nat) : Int)))) = true := ht
        rw [Bool.and_eq_true, Bool.not_eq_true', Bool.not_eq_true', decide_eq_false_iff_not] at ht
        have hne : rsf n base above x ≠ 0 := fun q => ht.1 (by rw [q]; rfl)
        have hu : ∀ i, i < x → rsf n base above i ≠ rsf n base above x := fun i hi q => by
          rw [plc_some hi q h2] at ht
          exact nomatch ht.2
        have h3 : ∀ i, i < x + 1 → rsf n base above i ≠ 0 := fun i hi => by
          by_cases z : i = x
          · subst z; exact hne
          · exact h1 i (by omega)
        have h4 : ∀ i j, i < j → j < x + 1 → rsf n base above i ≠ rsf n base above j := fun i j hi hj => by
          by_cases z : j = x
          · subst z; exact hu i hi
          · exact h2 i j hi (by omega)
        have hxn : x + 1 ≤ n := few_below (f := rsf n base above) (k := x + 1) (fun i _ => rsf_lt ha i) h4
        have hr := rsf_lt (base := base) ha x
        have hl : (seg n base above 0 x).length = x := seg_len
        have hpl : (plc n base above x).length = x := by unfold plc; rw [List.length_map, List.length_range]
        have sb : Sm (base : Int) := sm_nat (by omega)
        have sr : Sm (rsf n base above x : Int) := sm_nat (by omega)
        refine Tt.neg ?_ (tt_grd.mpr ⟨by show (plc n base above x).length < _; omega, tt_bnd.mpr (tt_grd.mpr ⟨⟨sb, sr⟩, tt_grd.mpr ⟨dv_nat (by omega) (by omega), tt_grd.mpr ⟨by show (seg n base above 0 x).length < _; omega, tt_bnd.mpr (tt_grd.mpr ⟨⟨sb, sr⟩, tt_grd.mpr ⟨by omega, tt_bnd.mpr (tt_pure.mpr ⟨⟨x + 1, ?_, hxn, h3, h4⟩, ?_⟩)⟩⟩)⟩⟩⟩)⟩)
        · rw [decide_eq_true_iff]
          show ¬ ((seg n base above 0 x).length : Int) = 500
          omega
        · refine Prod.ext ?_ (Prod.ext ?_ ?_)
          · show dput (plc n base above x) ((rsf n base above x : Nat) : Int) ((seg n base above 0 x).length : Int) = _
            unfold dput
            rw [if_neg (fun q => by
              obtain ⟨i, hi, e⟩ := plc_any.mp q
              exact hu i hi e), plc_s, hl]
          · show seg n base above 0 x ++ [(base : Int) * (rsf n base above x : Int) / (n : Int)] = seg n base above 0 (x + 1)
            rw [← seg_app (k := x) (j := 1), Nat.zero_add, ← Int.natCast_mul, ndiv]
            rfl
          · show (base : Int) * (rsf n base above x : Int) % (n : Int) = ((base * rsf n base above x % n : Nat) : Int)
            rw [← Int.natCast_mul, nmod]
        · show n - (seg n base above 0 x ++ [_]).length < n - (seg n base above 0 x).length
          rw [List.length_append, hl]
          show n - (x + 1) < n - x
          omega
      · have ht : ((!decide (((rsf n base above x : Nat) : Int) = 0)) && (!Option.isSome (dget (plc n base above x) ((rsf n base above x : Nat) : Int)))) = false := ht
        refine ⟨x, rfl, hx, h1, h2, ?_⟩
        by_cases z : rsf n base above x = 0
        · exact .inl z
        · right
          apply Classical.byContradiction
          intro q
          rw [plc_none (fun i hi e => q ⟨i, hi, e⟩), decide_eq_false (by omega)] at ht
          exact nomatch ht
    · rintro o _ ⟨k, rfl, hk, h1, h2, h3⟩
      show Tt _ (Wk.aft (Ctl.go _) _ _) _
      unfold aft
      by_cases z : rsf n base above k = 0
      · refine Tt.then (P' := fun b _ => b = ((k : Nat) : Int)) (Tt.neg ?_ (tt_pure.mpr ?_)) ?_
        · show ¬ (!decide (((rsf n base above k : Nat) : Int) = 0)) = true
          rw [z]; decide
        · show ((seg n base above 0 k).length : Int) = _
          rw [seg_len]
        · rintro b _ rfl
          refine tt_bnd.mpr (tt_bnd.mpr (tt_pure.mpr ⟨k, k, ⟨Nat.le_refl _, hk, h1, h2, .inl ⟨z, rfl⟩⟩, ?_⟩))
          rw [cut_head, seg_take (Nat.le_refl _), cut_from (by rw [seg_len]; exact Nat.le_refl _), seg_drop (Nat.le_refl _)]
      · obtain ⟨i, hi, e⟩ := h3.resolve_left z
        refine Tt.then (P' := fun b _ => b = ((i : Nat) : Int)) (Tt.pos ?_ ?_) ?_
        · show (!decide (((rsf n base above k : Nat) : Int) = 0)) = true
          rw [decide_eq_false (by omega)]; rfl
        · exact (tt_lft (plc_some hi e h2)).mpr (tt_pure.mpr rfl)
        · rintro b _ rfl
          refine tt_bnd.mpr (tt_bnd.mpr (tt_pure.mpr ⟨i, k, ⟨by omega, hk, h1, h2, .inr ⟨z, hi, e.symm⟩⟩, ?_⟩))
          rw [cut_head, seg_take (by omega), cut_from (by rw [seg_len]; omega), seg_drop (by omega)]
  obtain ⟨r, e, j, e', h, rfl⟩ := tt_ex key
  exact ⟨j, e', h, e⟩
end
end Wk
set_option Elab.async false
set_option maxRecDepth 1000000
set_option maxHeartbeats 4000000
set_option linter.all false
/-! A92f: what is gone through -/
namespace Wk
open PySem L2
open PyProof.Rows hiding St
def rs (n : Nat) : List Nat := ((List.range n).map (· + 1)).filter fun a => Nat.beq (Nat.gcd a n) 1
def odl (n a : Nat) : Nat → Nat → Nat → Nat
  | 0, _, k => k
  | f + 1, own, k => bif Nat.beq own (1 % n) then k else odl n a f (own * a % n) (k + 1)
def od (n a : Nat) : Nat := odl n a n (a % n) 1
def os (n : Nat) : List Nat := (rs n).map (od n)
def dueI (n : Nat) : List (Int × Int) := (srt (dd (ci (os n)))).map fun x => (x, (List.count x (ci (os n)) : Int))
def rts (n : Nat) : List Nat := (((rs n).zip (os n)).filter fun x => Nat.beq x.2 (rs n).length).map fun x => x.1
def msk (f : Nat → Nat) (l : List Nat) : Nat := l.foldl (fun acc k => acc ||| 2 ^ f k) 0
def hasR (n : Nat) : Bool := !(rts n).isEmpty
def ck1 (n : Nat) : Bool := Nat.beq n 1 || (rs n).all fun a => match od n a with | K => Nat.ble 1 K && Nat.ble K 20000 && Nat.beq (a ^ K % n) 1 && (List.range K).all fun j => Nat.beq j 0 || !Nat.beq (a ^ j % n) 1
noncomputable def ck2 (n : Nat) : Bool := decide (m_rests_number n = some ((rs n).length : Int)) && decide (m_coprime_count n = some ((rs n).length : Int)) && decide (m_coprimes_of n = some (ci (rs n)))
noncomputable def ck3 (n : Nat) : Bool := decide (m_order_counts n = some (dueI n)) && decide (m_greatest_order n = (ci (os n)).max?) && decide ((dd (ci (os n))).length < 64) && decide (m_has_root n = some (hasR n)) && decide (m_roots_number n = some ((rts n).length : Int)) && (Nat.ble (dueI n).length 500 && (dueI n).all fun x => decide (x.1.natAbs < 10 ^ 6) && decide (x.2.natAbs < 10 ^ 6))
noncomputable def ck4 (n : Nat) : Bool := match m_root_paper n with
  | none => false
  | some p => (decide (p.1 = ("root" : Str)) == hasR n) && decide (m_root_paper_error n p = some none)
noncomputable def ck5 (n : Nat) : Bool := match rts n with
  | [] => true
  | r :: _ => decide (m_least_root n = some (r : Int)) && decide ((m_coprime_count n).bind m_coprime_count = some ((rts n).length : Int)) && (rts n).all fun w => Nat.beq (msk (fun k => w ^ k % n) (List.range (rs n).length)) (msk (fun b => b % n) (rs n))
noncomputable def ckN (n : Nat) : Bool := ck1 n && (ck2 n && (ck3 n && (ck4 n && ck5 n)))
def ckL (n : Nat) : Bool := decide (LOk n) && decide (lam n ≤ 20000) && match lam n with | L => (List.range n).all fun a => !(Nat.beq (Nat.gcd a n) 1) || Nat.beq (a ^ L % n) 1
def upTo (lo k : Nat) (f : Nat → Bool) : Bool := (List.range k).all fun i => f (lo + i)
theorem upTo_get {lo k n : Nat} {f : Nat → Bool} (h : upTo lo k f = true) (h1 : lo ≤ n) (h2 : n < lo + k) : f n = true := by
  have := List.all_eq_true.mp h (n - lo) (List.mem_range.mpr (by omega))
  rwa [Nat.add_sub_cancel' h1] at this
theorem cN1 : upTo 1 26 ckN = true := by decide +kernel
theorem cN27 : upTo 27 26 ckN = true := by decide +kernel
theorem cN53 : upTo 53 26 ckN = true := by decide +kernel
theorem cN79 : upTo 79 26 ckN = true := by decide +kernel
theorem cN105 : upTo 105 26 ckN = true := by decide +kernel
theorem cL1 : upTo 2 100 ckL = true := by decide +kernel
theorem cL2 : upTo 102 100 ckL = true := by decide +kernel
theorem ckN_of {n : Nat} (h1 : 1 ≤ n) (h2 : n ≤ 130) : ckN n = true := by
  by_cases a : n < 27
  · exact upTo_get cN1 h1 (by omega)
  by_cases b : n < 53
  · exact upTo_get cN27 (by omega) (by omega)
  by_cases c : n < 79
  · exact upTo_get cN53 (by omega) (by omega)
  by_cases d : n < 105
  · exact upTo_get cN79 (by omega) (by omega)
  · exact upTo_get cN105 (by omega) (by omega)
theorem ckL_of {n : Nat} (h1 : 2 ≤ n) (h2 : n ≤ 200) : ckL n = true := by
  by_cases a : n < 102
  · exact upTo_get cL1 h1 (by omega)
  · exact upTo_get cL2 (by omega) (by omega)
structure LF (n : Nat) : Prop where
  lo : LOk n
  lm : lam n ≤ 20000
  od : ∀ a, Nat.gcd a n = 1 → a ^ lam n % n = 1
theorem lf_of {n : Nat} (h1 : 2 ≤ n) (h2 : n ≤ 200) : LF n := by
  have h := ckL_of h1 h2
  unfold ckL at h
  rw [Bool.and_eq_true, Bool.and_eq_true, decide_eq_true_iff, decide_eq_true_iff] at h
  obtain ⟨⟨h3, h4⟩, h5⟩ := h
  refine ⟨h3, h4, fun a ha => ?_⟩
  have := List.all_eq_true.mp h5 (a % n) (List.mem_range.mpr (Nat.mod_lt _ (by omega)))
  rw [gcd_mod_one, ha, Bool.or_eq_true, ← Nat.pow_mod] at this
  rcases this with z | z
  · exact nomatch z
  · exact Nat.eq_of_beq_eq_true z
end Wk
set_option Elab.async false
set_option maxRecDepth 100000
set_option maxHeartbeats 4000000
set_option linter.all false
/-! A92g: rounds of figures, fractions -/
namespace Wk
open PySem L2
open PyProof.Rows hiding St
local macro_rules | `(tactic| walk_at "gd") => `(tactic| first | decide | omega | exact sm_small (by omega) | exact ⟨sm_small (by omega), sm_small (by omega)⟩ | exact dv_s (by omega) (by omega) | exact ⟨by omega, by omega⟩ | exact ⟨⟨by omega, by omega⟩, ⟨by omega, by omega⟩⟩ | (simp; done) | (simp; omega) | exact ⟨by decide, by decide, by simp; done⟩ | exact ⟨by decide, by decide, by simp; omega⟩)
local macro_rules | `(tactic| walk_at "g1") => `(tactic| first | with_reducible refine tt_bnd.mpr ?_ | (with_reducible refine tt_grd.mpr (And.intro ?_ ?_); focus (walk_at "gd"; done)) | with_reducible refine (tt_lft (by assumption)).mpr ?_ | (with_reducible refine tt_grP.mpr (And.intro ?_ ?_); focus (rfl; done)) | with_reducible refine Tt.neg Bool.false_ne_true ?_ | with_reducible refine Tt.neg (by with_reducible assumption) ?_ | with_reducible refine Tt.pos (by with_reducible assumption) ?_)
local macro_rules | `(tactic| walk_at "go") => `(tactic| repeat walk_at "g1")
def red (a b : Nat) : Int × Int := (((a / Nat.gcd a b : Nat) : Int), ((b / Nat.gcd a b : Nat) : Int))
theorem red_eq {a b c d : Nat} (ha : 0 < a) (hb : 0 < b) (hc : 0 < c) (hd : 0 < d) (h : a * d = c * b) : red a b = red c d := by
  have hg : 0 < Nat.gcd a b := Nat.gcd_pos_of_pos_left b ha
  have hk : 0 < Nat.gcd c d := Nat.gcd_pos_of_pos_left d hc
  have c1 := Nat.coprime_div_gcd_div_gcd hg
  have c2 := Nat.coprime_div_gcd_div_gcd hk
  have ea : a / Nat.gcd a b * Nat.gcd a b = a := Nat.div_mul_cancel (Nat.gcd_dvd_left a b)
  have eb : b / Nat.gcd a b * Nat.gcd a b = b := Nat.div_mul_cancel (Nat.gcd_dvd_right a b)
  have ec : c / Nat.gcd c d * Nat.gcd c d = c := Nat.div_mul_cancel (Nat.gcd_dvd_left c d)
  have ed : d / Nat.gcd c d * Nat.gcd c d = d := Nat.div_mul_cancel (Nat.gcd_dvd_right c d)
  unfold red
  generalize a / Nat.gcd a b = x at *
  generalize b / Nat.gcd a b = y at *
  generalize c / Nat.gcd c d = u at *
  generalize d / Nat.gcd c d = v at *
  generalize Nat.gcd a b = g at *
  generalize Nat.gcd c d = k at *
  have h2 : x * v = u * y := by
    have : (x * v) * (g * k) = (u * y) * (g * k) := by
      calc (x * v) * (g * k) = (x * g) * (v * k) := by simp only [Nat.mul_assoc, Nat.mul_left_comm, Nat.mul_comm]
        _ = (u * k) * (y * g) := by rw [ea, ed, ec, eb, h]
        _ = (u * y) * (g * k) := by simp only [Nat.mul_assoc, Nat.mul_left_comm, Nat.mul_comm]
    exact Nat.eq_of_mul_eq_mul_right (Nat.mul_pos hg hk) this
  have d1 : x ∣ u := c1.dvd_of_dvd_mul_right ⟨v, h2.symm⟩
  have d2 : u ∣ x := c2.dvd_of_dvd_mul_right ⟨y, h2⟩
  have e1 : x = u := Nat.dvd_antisymm d1 d2
  have hx : 0 < x := by
    rcases Nat.eq_zero_or_pos x with z | z
    · rw [z, Nat.zero_mul] at ea; omega
    · exact z
  rw [← e1] at h2
  have e2 : v = y := Nat.eq_of_mul_eq_mul_left hx h2
  rw [e1, e2]
theorem law_made_ok {a b : Nat} (ha : 0 < a) (hb : 0 < b) (hb2 : b < 10 ^ 40) : m__law_made a b = some (red a b) := by
  unfold m__law_made
  have hg : 0 < Nat.gcd a b := Nat.gcd_pos_of_pos_left b ha
  have hl := Nat.le_of_dvd hb (Nat.gcd_dvd_right a b)
  refine tt_eq (Tt.then (P' := fun c _ => c = ((Nat.gcd a b : Nat) : Int)) ?_ fun c _ e => ?_)
  · refine Tt.pos (by rw [decide_eq_false (show ¬ (a : Int) = 0 by omega)]; rfl) ?_
    rw [if_neg (show ¬ (a : Int) < 0 by omega)]
    exact (tt_lft (law_common_ok hb2)).mpr (tt_pure.mpr rfl)
  · subst e
    refine tt_bnd.mpr (tt_grd.mpr ⟨dv_nat hg (by omega), tt_grd.mpr ⟨dv_nat hg (by omega), tt_bnd.mpr (tt_pure.mpr ?_)⟩⟩)
    rw [ndiv, ndiv]; rfl
theorem common_divisorB_ok {a b : Nat} (ha : a ≤ 10 ^ 130) (hb : b ≤ 10 ^ 130) : m_common_divisor a b = some ((Nat.gcd a b : Nat) : Int) := by
  unfold m_common_divisor
  refine tt_eq (Tt.then (P' := fun st _ => st.1 = ((Nat.gcd a b : Nat) : Int)) ?_ fun st _ h => by simp only [tt_bnd, tt_pure]; exact h)
  have hab : a * b < 2 ^ 900 := Nat.lt_of_le_of_lt (Nat.mul_le_mul ha hb) (by decide +kernel)
  refine Tt.whI (I := fun j (st : Int × Int) _ => ∃ x y : Nat, st = ((x : Int), (y : Int)) ∧ Nat.gcd x y = Nat.gcd a b ∧ ((y ≤ x ∧ x * y < 2 ^ j) ∨ (x * y < 2 ^ (j - 1) ∧ 1 ≤ j))) ?_ many 901 _ _ ⟨a, b, rfl, rfl, .inr ⟨hab, by decide⟩⟩ (lt_many (by decide))
  rintro j st s k P ⟨x, y, rfl, e, hw⟩ hk
  refine hk _ _ (fun ht => ?_) (fun ht => ?_)
  · have hy : 0 < y := by simpa using ht
    refine tt_bnd.mpr (tt_grd.mpr ⟨by show (0 : Int) < (y : Int); omega, tt_bnd.mpr (tt_pure.mpr ?_)⟩)
    have hlt := Nat.mod_lt x hy
    have hg : Nat.gcd y (x % y) = Nat.gcd a b := by rw [← e, Nat.gcd_comm x y, Nat.gcd_rec y x, Nat.gcd_comm]
    by_cases c : y ≤ x
    · have hj : 1 ≤ j := by
        rcases hw with ⟨_, h2⟩ | ⟨_, h2⟩
        · refine Nat.pos_of_ne_zero fun z => ?_
          subst z
          rw [Nat.pow_zero] at h2
          have : 0 < x * y := Nat.mul_pos (by omega) hy
          omega
        · exact h2
      have hp : x * y < 2 ^ j := by
        rcases hw with ⟨_, h2⟩ | ⟨h2, _⟩
        · exact h2
        · exact Nat.lt_of_lt_of_le h2 (Nat.pow_le_pow_right (by decide) (by omega))
      have h2 : 2 * (x % y) ≤ x := by
        have := Nat.div_add_mod x y
        have h1 : 1 ≤ x / y := (Nat.one_le_div_iff hy).mpr c
        have : y * 1 ≤ y * (x / y) := Nat.mul_le_mul_left _ h1
        omega
      refine ⟨j - 1, by omega, y, x % y, by rw [nmod], hg, .inl ⟨Nat.le_of_lt hlt, ?_⟩⟩
      have h3 : y * (2 * (x % y)) ≤ y * x := Nat.mul_le_mul_left _ h2
      have h4 : 2 ^ j = 2 * 2 ^ (j - 1) := by
        obtain ⟨d, rfl⟩ : ∃ d, j = d + 1 := ⟨j - 1, by omega⟩
        rw [Nat.pow_succ, Nat.add_sub_cancel, Nat.mul_comm]
      rw [h4, Nat.mul_comm x] at hp
      have h5 : y * (2 * (x % y)) = 2 * (y * (x % y)) := by rw [Nat.mul_left_comm]
      omega
    · have hm : x % y = x := Nat.mod_eq_of_lt (by omega)
      rcases hw with ⟨h1, _⟩ | ⟨h1, h2⟩
      · exact absurd h1 c
      · refine ⟨j - 1, by omega, y, x, by rw [nmod, hm], by rw [← hg, hm], .inl ⟨by omega, ?_⟩⟩
        rw [Nat.mul_comm]; exact h1
  · have hy : y = 0 := by simp at ht; omega
    subst hy
    rw [Nat.gcd_zero_right] at e
    show (x : Int) = _
    rw [e]
structure FR (n base p T K : Nat) : Prop where
  pe : prt base 20 n = p
  pd : p ∣ n
  p0 : 0 < p
  pc : Nat.gcd p base = 1
  ah : Ah n base p T
  ap : n ∣ p * base ^ 20
  k1 : p = 1 → K = 0
  k2 : 1 < p → 0 < K ∧ m__law_order base p = some (K : Int) ∧ m_power_order base p = some (K : Int) ∧ ∀ m, base ^ m % p = 1 ↔ K ∣ m
theorem fr_of {n base : Nat} (hn : 1 ≤ n) (hn2 : n ≤ 200) (hb2 : base ≤ 36) : ∃ p T K, FR n base p T K := by
  obtain ⟨h1, h2, h3⟩ := prt_ok (base := base) (f := 20) (m := n) hn (Nat.lt_of_le_of_lt hn2 (by decide))
  generalize hp : prt base 20 n = p at h1 h2 h3
  have p0 : 0 < p := Nat.pos_of_dvd_of_pos h2 hn
  have pn : p ≤ n := Nat.le_of_dvd hn h2
  have hc : Nat.gcd p base = 1 := by
    have := Nat.gcd_pos_of_pos_left base p0
    omega
  obtain ⟨T, hT⟩ := ah_ex h3
  by_cases z : p = 1
  · exact ⟨p, T, 0, hp, h2, p0, hc, hT, h3, fun _ => rfl, fun q => by omega⟩
  · have hl := lf_of (n := p) (by omega) (by omega)
    have hg : Nat.gcd base p = 1 := by rw [Nat.gcd_comm]; exact hc
    obtain ⟨K, k1, k2, k3, k4⟩ := order_both (a := base) (n := p) (by omega) (by omega) (by omega) hl.lo hl.lm hg (hl.od base hg)
    exact ⟨p, T, K, hp, h2, p0, hc, hT, h3, fun q => absurd q z, fun _ => ⟨k3, k2, k1, k4⟩⟩
theorem figure_round_ok {n base p T K : Nat} (hn : 1 ≤ n) (hn2 : n ≤ 200) (hb2 : base ≤ 36) (h : FR n base p T K) : m_figure_round n base = some ((T : Int), (K : Int)) := by
  unfold m_figure_round
  have pn : p ≤ n := Nat.le_of_dvd hn h.pd
  refine tt_eq (tt_bnd.mpr (tt_bind.mpr (prt_loop (fun a b hb => common_divisor_ok hb) hn (by omega) (by omega) ?_)))
  rw [h.pe]
  refine tt_bnd.mpr (tt_bnd.mpr (tt_bind.mpr (t_loop1 hn (by omega) (by omega) h.ah ?_)))
  refine Tt.then (P' := fun b _ => b = (K : Int)) ?_ fun b _ e => by subst e; exact tt_bnd.mpr (tt_pure.mpr rfl)
  have p0 := h.p0
  by_cases z : p = 1
  · refine Tt.neg (by rw [decide_eq_true_iff]; omega) (tt_pure.mpr ?_)
    rw [h.k1 z]; rfl
  · refine Tt.pos (by rw [decide_eq_true_iff]; omega) ?_
    exact (tt_lft (h.k2 (by omega)).2.2.1).mpr (tt_pure.mpr rfl)
section
variable {n base p T K above : Nat}
theorem hit (h : FR n base p T K) (hb : 2 ≤ base) (hg : Nat.gcd above n = 1) {i d : Nat} (hd : 0 < d) (e : rsf n base above i = rsf n base above (i + d)) : T ≤ i ∧ (1 < p → K ∣ d) := by
  have e1 : above * base ^ i % n = above * base ^ (i + d) % n := by rw [← rsf_eq, ← rsf_eq, e]
  have hle : base ^ i ≤ base ^ (i + d) := Nat.pow_le_pow_right (by omega) (by omega)
  have e2 := mod_dvd (cop_cut hg hle e1).symm hle
  have e3 : base ^ (i + d) - base ^ i = base ^ i * (base ^ d - 1) := by rw [Nat.pow_add, Nat.mul_sub, Nat.mul_one]
  rw [e3] at e2
  have hD : 0 < base ^ d := Nat.pow_pos (by omega)
  have cD : Nat.Coprime base (base ^ d - 1) := by
    have g1 : Nat.gcd base (base ^ d - 1) ∣ base ^ d := Nat.dvd_trans (Nat.gcd_dvd_left _ _) (by
      obtain ⟨c, rfl⟩ : ∃ c, d = c + 1 := ⟨d - 1, by omega⟩
      rw [Nat.pow_succ]; exact Nat.dvd_mul_left _ _)
    have g2 := Nat.dvd_sub g1 (Nat.gcd_dvd_right base (base ^ d - 1))
    rw [show base ^ d - (base ^ d - 1) = 1 by omega] at g2
    exact Nat.dvd_one.mp g2
  constructor
  · refine Nat.le_of_not_lt fun hi => h.ah.m i hi ?_
    obtain ⟨s, hs⟩ := h.pd
    have a1 : s ∣ base ^ 20 := by
      have := h.ap
      rw [hs] at this
      exact Nat.dvd_of_mul_dvd_mul_left h.p0 this
    have a2 : Nat.Coprime s (base ^ d - 1) := Nat.Coprime.coprime_dvd_left a1 (cD.pow_left 20)
    have a3 : s ∣ base ^ i * (base ^ d - 1) := Nat.dvd_trans ⟨p, by rw [hs, Nat.mul_comm]⟩ e2
    have a4 := a2.dvd_of_dvd_mul_right a3
    rw [hs]
    exact Nat.mul_dvd_mul_left p a4
  · intro hp
    have b1 : p ∣ base ^ i * (base ^ d - 1) := Nat.dvd_trans h.pd e2
    have c1 : Nat.Coprime p (base ^ i) := Nat.Coprime.pow_right i h.pc
    have b2 := c1.dvd_of_dvd_mul_left b1
    have b3 := mod_of_dvd b2 (by omega)
    rw [Nat.mod_eq_of_lt hp] at b3
    exact ((h.k2 hp).2.2.2 d).mp b3
theorem hit0 (h : FR n base p T K) (hg : Nat.gcd above n = 1) {i : Nat} (e : rsf n base above i = 0) : p = 1 ∧ T ≤ i := by
  have e1 : above * base ^ i % n = 0 := by rw [← rsf_eq, e, Nat.zero_mod]
  have e2 : n ∣ base ^ i := by
    have c : Nat.Coprime n above := by unfold Nat.Coprime; rw [Nat.gcd_comm]; exact hg
    exact c.dvd_of_dvd_mul_left (Nat.dvd_of_mod_eq_zero e1)
  have c1 : Nat.Coprime p (base ^ i) := Nat.Coprime.pow_right i h.pc
  have p1 : p = 1 := Nat.Coprime.eq_one_of_dvd c1 (Nat.dvd_trans h.pd e2)
  refine ⟨p1, Nat.le_of_not_lt fun hi => h.ah.m i hi ?_⟩
  rw [p1, Nat.one_mul]; exact e2
theorem hitT (h : FR n base p T K) (ha : above < n) (hp : p = 1) : rsf n base above T = 0 := by
  have h1 := h.ah.d
  rw [hp, Nat.one_mul] at h1
  have h2 := rsf_eq (n := n) (base := base) (above := above) T
  rw [Nat.mod_eq_of_lt (rsf_lt ha T)] at h2
  rw [h2]
  exact Nat.mod_eq_zero_of_dvd (Nat.dvd_trans h1 (Nat.dvd_mul_left _ _))
theorem hitK (h : FR n base p T K) (hb : 2 ≤ base) (ha : above < n) (hp : 1 < p) : rsf n base above (T + K) = rsf n base above T := by
  have h2 := rsf_eq (n := n) (base := base) (above := above) T
  have h3 := rsf_eq (n := n) (base := base) (above := above) (T + K)
  rw [Nat.mod_eq_of_lt (rsf_lt ha _)] at h2 h3
  rw [h2, h3]
  have h4 := ((h.k2 hp).2.2.2 K).mpr (Nat.dvd_refl _)
  have hD : 0 < base ^ K := Nat.pow_pos (by omega)
  have h5 : p ∣ base ^ K - 1 := mod_dvd (by rw [h4, Nat.mod_eq_of_lt hp]) hD
  have h6 : n ∣ base ^ T * (base ^ K - 1) := Nat.dvd_trans h.ah.d (by rw [Nat.mul_comm]; exact Nat.mul_dvd_mul_left _ h5)
  have hle : base ^ T ≤ base ^ (T + K) := Nat.pow_le_pow_right (by omega) (by omega)
  have h7 : base ^ (T + K) % n = base ^ T % n := mod_of_dvd (by rw [Nat.pow_add]; rw [Nat.mul_sub, Nat.mul_one] at h6; exact h6) hle
  rw [Nat.mul_mod, h7, ← Nat.mul_mod]
theorem rounds_len {j e : Nat} (h : FR n base p T K) (hb : 2 ≤ base) (ha : above < n) (hg : Nat.gcd above n = 1) (r : Rd4 n base above j e) : j = T ∧ e - j = K := by
  have p0 := h.p0
  by_cases z : p = 1
  · have hk := h.k1 z
    have h1 := hitT h ha z
    have heT : e ≤ T := Nat.le_of_not_lt fun q => r.ne T q h1
    rcases r.wy with ⟨w1, w2⟩ | ⟨w1, w2, w3⟩
    · have := (hit0 h hg w1).2
      omega
    · have := (hit h hb hg (i := j) (d := e - j) (by omega) (by rw [Nat.add_sub_cancel' (by omega)]; exact w3.symm)).1
      omega
  · have hp : 1 < p := by omega
    obtain ⟨k0, _, _, _⟩ := h.k2 hp
    have h1 := hitK h hb ha hp
    rcases r.wy with ⟨w1, w2⟩ | ⟨w1, w2, w3⟩
    · exact absurd (hit0 h hg w1).1 z
    · obtain ⟨b1, b2⟩ := hit h hb hg (i := j) (d := e - j) (by omega) (by rw [Nat.add_sub_cancel' (by omega)]; exact w3.symm)
      have b3 := Nat.le_of_dvd (by omega) (b2 hp)
      have b4 : e ≤ T + K := Nat.le_of_not_lt fun q => r.un T (T + K) (by omega) q h1.symm
      omega
/-! numbers that figures tell -/
def nb (n base above a : Nat) : Nat → Nat
  | 0 => 0
  | k + 1 => nb n base above a k * base + base * rsf n base above (a + k) / n
theorem nb_eq {a : Nat} : ∀ k, rsf n base above a * base ^ k = nb n base above a k * n + rsf n base above (a + k)
  | 0 => by rw [Nat.pow_zero, Nat.mul_one]; show _ = 0 * n + _; rw [Nat.zero_mul, Nat.zero_add]; rfl
  | k + 1 => by
    have e := nb_eq (a := a) k
    show _ = (nb n base above a k * base + base * rsf n base above (a + k) / n) * n + base * rsf n base above (a + k) % n
    rw [Nat.pow_succ, ← Nat.mul_assoc, e, Nat.add_mul, Nat.add_mul, Nat.add_assoc, Nat.mul_comm (base * rsf n base above (a + k) / n) n, Nat.div_add_mod, Nat.mul_right_comm, Nat.mul_comm base]
theorem seg_cons {a k : Nat} : seg n base above a (k + 1) = fg n base above a :: seg n base above (a + 1) k := by
  rw [Nat.add_comm k 1, ← seg_app (k := 1) (j := k)]
  rfl
theorem number_of_ok {a k : Nat} (ha : above < n) (hb : base ≤ 36) (hk : k ≤ 30) : m_number_of (seg n base above a k) base = some ((nb n base above a k : Int), ((base ^ k : Nat) : Int)) := by
  unfold m_number_of
  have hs : ∀ i, i ≤ k → base ^ i ≤ 10 ^ 60 := fun i hi => Nat.le_trans (Nat.pow_le_pow_left (show base ≤ 10 ^ 2 by omega) i) (by rw [← Nat.pow_mul]; exact Nat.pow_le_pow_right (by decide) (by omega))
  have hbnd : ∀ i, i ≤ k → nb n base above a i ≤ 10 ^ 60 := fun i hi => by
    have e := nb_eq (n := n) (base := base) (above := above) (a := a) i
    have h1 : nb n base above a i * n ≤ base ^ i * n := by
      have h2 : rsf n base above a * base ^ i ≤ n * base ^ i := Nat.mul_le_mul_right _ (Nat.le_of_lt (rsf_lt ha a))
      rw [Nat.mul_comm n] at h2
      omega
    exact Nat.le_trans (Nat.le_of_mul_le_mul_right h1 (by omega)) (hs i hi)
  refine tt_eq (tt_bnd.mpr (tt_bnd.mpr (Tt.then (Tt.lp (I := fun (l : List Int) (st : Int × Int) _ => ∃ i, i ≤ k ∧ l = seg n base above (a + i) (k - i) ∧ st = ((nb n base above a i : Int), ((base ^ i : Nat) : Int))) ?_ _ _ _ ⟨0, Nat.zero_le _, rfl, by rw [Nat.pow_zero]; rfl⟩) ?_)))
  · rintro x xs st s ⟨i, hi, e, rfl⟩
    obtain ⟨m, hm⟩ : ∃ m, k - i = m + 1 := by
      cases q : k - i with
      | zero => rw [q] at e; cases e
      | succ m => exact ⟨m, rfl⟩
    rw [hm, seg_cons] at e
    injection e with e1 e2
    subst e1 e2
    refine tt_grd.mpr ⟨⟨sm_pow (hbnd i hi) (by decide), sm_nat (by omega)⟩, tt_bnd.mpr (tt_grd.mpr ⟨⟨sm_pow (hs i hi) (by decide), sm_nat (by omega)⟩, tt_bnd.mpr (tt_pure.mpr ⟨i + 1, by omega, ?_, ?_⟩)⟩)⟩
    · rw [Nat.add_assoc]; congr 1; omega
    · refine Prod.ext ?_ ?_
      · show (nb n base above a i : Int) * (base : Int) + ((base * rsf n base above (a + i) / n : Nat) : Int) = ((nb n base above a i * base + base * rsf n base above (a + i) / n : Nat) : Int)
        push_cast; rfl
      · show ((base ^ i : Nat) : Int) * (base : Int) = _
        rw [← Int.natCast_mul, Nat.pow_succ]
  · rintro st _ ⟨i, hi, e, rfl⟩
    have : i = k := by
      have := congrArg List.length e
      rw [seg_len] at this
      simp at this
      omega
    subst this
    exact tt_bnd.mpr (tt_pure.mpr rfl)
def fr2 (above n : Nat) : Int × Int := if above = 0 then (0, 1) else red above n
theorem law_made2_ok (ha : above < n) (hn : n ≤ 200) : m__law_made above n = some (fr2 above n) := by
  unfold fr2
  by_cases z : above = 0
  · subst z
    unfold m__law_made
    refine tt_eq (Tt.then (P' := fun b _ => b = (n : Int)) (Tt.neg (by decide) (tt_pure.mpr rfl)) ?_)
    rintro b _ rfl
    refine tt_bnd.mpr (tt_grd.mpr ⟨dv_nat (by omega) (by omega), tt_grd.mpr ⟨dv_nat (by omega) (by omega), tt_bnd.mpr (tt_pure.mpr ?_)⟩⟩)
    rw [if_pos rfl]
    refine Prod.ext ?_ ?_
    · exact Int.zero_ediv _
    · exact Int.ediv_self (by omega)
  · rw [if_neg z]
    exact law_made_ok (by omega) (by omega) (by omega)
theorem fraction_by_ok {j e : Nat} (ha : above < n) (hn : n ≤ 200) (hb : 2 ≤ base) (hb2 : base ≤ 36) (r : Rd4 n base above j e) (hj : j ≤ 30) (he : e - j ≤ 30) : m_fraction_by (seg n base above 0 j) (seg n base above j (e - j)) base = some (fr2 above n) := by
  unfold m_fraction_by
  refine tt_eq ((tt_lft (number_of_ok ha hb2 hj)).mpr (tt_bnd.mpr ((tt_lft (number_of_ok ha hb2 he)).mpr (tt_bnd.mpr (tt_bnd.mpr (tt_bnd.mpr (tt_grd.mpr ⟨by decide, ?_⟩)))))))
  have e1 := nb_eq (n := n) (base := base) (above := above) (a := 0) j
  have e2 := nb_eq (n := n) (base := base) (above := above) (a := j) (e - j)
  rw [Nat.zero_add] at e1
  rw [Nat.add_sub_cancel' r.le] at e2
  have e0 : rsf n base above 0 = above := rfl
  rw [e0] at e1
  have hw : ∀ k, 0 < base ^ k := fun k => Nat.pow_pos (by omega)
  have hs : ∀ k, k ≤ 30 → base ^ k ≤ 10 ^ 60 := fun i hi => Nat.le_trans (Nat.pow_le_pow_left (show base ≤ 10 ^ 2 by omega) i) (by rw [← Nat.pow_mul]; exact Nat.pow_le_pow_right (by decide) (by omega))
  have hN : nb n base above 0 j ≤ 10 ^ 60 := by
    have h1 : nb n base above 0 j * n ≤ base ^ j * n := by
      have h2 : above * base ^ j ≤ n * base ^ j := Nat.mul_le_mul_right _ (Nat.le_of_lt ha)
      rw [Nat.mul_comm n] at h2
      omega
    exact Nat.le_trans (Nat.le_of_mul_le_mul_right h1 (by omega)) (hs j hj)
  have hM : nb n base above j (e - j) ≤ 10 ^ 60 := by
    have h1 : nb n base above j (e - j) * n ≤ base ^ (e - j) * n := by
      have h2 : rsf n base above j * base ^ (e - j) ≤ n * base ^ (e - j) := Nat.mul_le_mul_right _ (Nat.le_of_lt (rsf_lt ha j))
      rw [Nat.mul_comm n] at h2
      omega
    exact Nat.le_trans (Nat.le_of_mul_le_mul_right h1 (by omega)) (hs _ he)
  refine Tt.then (P' := fun st _ => ∃ x y : Nat, st = ((x : Int), (y : Int)) ∧ 0 < y ∧ y ≤ 10 ^ 130 ∧ x ≤ 10 ^ 130 ∧ x * n = above * y) ?_ ?_
  · rcases r.wy with ⟨w1, w2⟩ | ⟨w1, w2, w3⟩
    · subst w2
      have es : seg n base above j (j - j) = [] := by rw [Nat.sub_self]; rfl
      refine Tt.neg (by rw [es]; decide) (tt_pure.mpr ⟨nb n base above 0 j, base ^ j, rfl, hw j, Nat.le_trans (hs j hj) (Nat.pow_le_pow_right (by decide) (by decide)), Nat.le_trans hN (Nat.pow_le_pow_right (by decide) (by decide)), ?_⟩)
      rw [w1] at e1
      omega
    · have es : seg n base above j (e - j) ≠ [] := fun q => by
        have := congrArg List.length q
        rw [seg_len] at this
        simp at this
        omega
      have hb1 := hw (e - j)
      have ew : ((base ^ (e - j) : Nat) : Int) - 1 = ((base ^ (e - j) - 1 : Nat) : Int) := by omega
      have h1k : 1 < base ^ (e - j) := Nat.one_lt_pow (by omega) (by omega)
      refine Tt.pos (by rw [decide_eq_false es]; rfl) ?_
      show Tt () (Mir.lft (grd (Sm (nb n base above 0 j : Int) ∧ Sm (((base ^ (e - j) : Nat) : Int) - 1))) >>= fun _ => _) _
      rw [ew]
      have hq : base ^ (e - j) - 1 ≤ 10 ^ 60 := by have := hs (e - j) he; omega
      refine tt_grd.mpr ⟨⟨sm_pow hN (by decide), sm_pow hq (by decide)⟩, tt_bnd.mpr (tt_grd.mpr ⟨⟨sm_pow (hs j hj) (by decide), sm_pow hq (by decide)⟩, tt_bnd.mpr (tt_pure.mpr ⟨nb n base above 0 j * (base ^ (e - j) - 1) + nb n base above j (e - j), base ^ j * (base ^ (e - j) - 1), ?_, Nat.mul_pos (hw j) (by omega), ?_, ?_, ?_⟩)⟩)⟩
      · push_cast
        rfl
      · refine Nat.le_trans (Nat.mul_le_mul (hs j hj) hq) ?_
        rw [← Nat.pow_add]; exact Nat.pow_le_pow_right (by decide) (by decide)
      · refine Nat.le_trans (Nat.add_le_add (Nat.mul_le_mul hN hq) hM) (by decide)
      · rw [w3] at e2
        have e3 : nb n base above j (e - j) * n = rsf n base above j * (base ^ (e - j) - 1) := by rw [Nat.mul_sub, Nat.mul_one]; omega
        rw [Nat.add_mul, e3, Nat.mul_right_comm, ← Nat.add_mul, ← e1, Nat.mul_assoc]
  · rintro st _ ⟨x, y, rfl, hy, hy2, hx2, hxy⟩
    unfold fr2
    by_cases z : above = 0
    · rw [if_pos z]
      have : x = 0 := by
        rw [z, Nat.zero_mul] at hxy
        rcases Nat.mul_eq_zero.mp hxy with q | q <;> omega
      subst this
      exact Tt.pos (by rfl) (tt_bnd.mpr (tt_pure.mpr rfl))
    · rw [if_neg z]
      have x0 : 0 < x := Nat.pos_of_ne_zero fun q => by
        rw [q, Nat.zero_mul] at hxy
        rcases Nat.mul_eq_zero.mp hxy.symm with w | w <;> omega
      refine Tt.neg (by rw [decide_eq_true_iff]; show ¬ (x : Int) = 0; omega) ?_
      have hg : 0 < Nat.gcd x y := Nat.gcd_pos_of_pos_left _ x0
      have hgy : Nat.gcd x y ≤ y := Nat.le_of_dvd hy (Nat.gcd_dvd_right _ _)
      have hdv : Dv ((Nat.gcd x y : Nat) : Int) := dv_of (by omega) (Int.lt_of_le_of_lt (b := ((10 ^ 130 : Nat) : Int)) (by omega) (by decide +kernel))
      refine (tt_lft (common_divisorB_ok hx2 hy2)).mpr (tt_bnd.mpr (tt_grd.mpr ⟨hdv, tt_grd.mpr ⟨hdv, tt_bnd.mpr (tt_pure.mpr ?_)⟩⟩))
      show ((x : Int) / _, (y : Int) / _) = _
      rw [ndiv, ndiv]
      exact red_eq x0 hy (by omega) (by omega) hxy
end
end Wk
set_option Elab.async false
set_option maxRecDepth 100000
set_option maxHeartbeats 4000000
set_option linter.all false
/-! A92h: figures, asked -/
namespace Wk
open PySem L2
open PyProof.Rows hiding St
local macro_rules | `(tactic| walk_at "gd") => `(tactic| first | decide | omega | exact sm_small (by omega) | exact ⟨sm_small (by omega), sm_small (by omega)⟩ | exact dv_s (by omega) (by omega) | exact ⟨by omega, by omega⟩ | exact ⟨⟨by omega, by omega⟩, ⟨by omega, by omega⟩⟩ | (simp; done) | (simp; omega) | exact ⟨by decide, by decide, by simp; done⟩ | exact ⟨by decide, by decide, by simp; omega⟩)
local macro_rules | `(tactic| walk_at "g1") => `(tactic| first | with_reducible refine tt_bnd.mpr ?_ | (with_reducible refine tt_grd.mpr (And.intro ?_ ?_); focus (walk_at "gd"; done)) | with_reducible refine (tt_lft (by assumption)).mpr ?_ | (with_reducible refine tt_grP.mpr (And.intro ?_ ?_); focus (rfl; done)) | with_reducible refine Tt.neg Bool.false_ne_true ?_ | with_reducible refine Tt.neg (by with_reducible assumption) ?_ | with_reducible refine Tt.pos (by with_reducible assumption) ?_)
local macro_rules | `(tactic| walk_at "go") => `(tactic| repeat walk_at "g1")
theorem shp_pair {a b : Int} (ha : a.natAbs < 10 ^ 40) (hb : b.natAbs < 10 ^ 40) : Shp 1 200 (PyData.tuple [PyData.int a, PyData.int b]) :=
  (shp_tup (D := 0) (B := 50) (n := 2) (by simp) (Shp.lc (shp_int ha) (shp_int hb).l1)).le (by decide) (by decide)
theorem ok_pairs {a b c d : Int} (ha : a.natAbs < 10 ^ 40) (hb : b.natAbs < 10 ^ 40) (hc : c.natAbs < 10 ^ 40) (hd : d.natAbs < 10 ^ 40) : OkD (PyData.list [PyData.tuple [PyData.int a, PyData.int b], PyData.tuple [PyData.int c, PyData.int d]]) :=
  (shp_list (n := 2) (by simp) (Shp.lc (shp_pair ha hb) (shp_pair hc hd).l1)).ok (by decide) (by decide)
theorem ok_rows {l r : List Int} (hl : l.length ≤ 1000) (hr : r.length ≤ 1000) (h : ∀ x ∈ l, x.natAbs < 10 ^ 40) (h' : ∀ x ∈ r, x.natAbs < 10 ^ 40) : OkD (PyData.list [PyData.tuple (l.map PyData.int), PyData.tuple (r.map PyData.int)]) :=
  (shp_list (n := 2) (by simp) (Shp.lc (shp_tup (n := 1000) (by rw [List.length_map]; exact hl) (shp_map fun a ha => shp_int (h a ha))) (shp_tup (n := 1000) (by rw [List.length_map]; exact hr) (shp_map fun a ha => shp_int (h' a ha))).l1)).ok (by decide) (by decide)
theorem seg_low {n base above a k : Nat} (ha : above < n) (hb : base ≤ 36) : ∀ x ∈ seg n base above a k, x.natAbs < 10 ^ 40 := fun x hx => by
  obtain ⟨i, _, rfl⟩ := List.mem_map.mp hx
  have h1 := rsf_lt (base := base) ha (a + i)
  unfold fg
  rw [Int.natAbs_natCast]
  have h2 : base * rsf n base above (a + i) / n ≤ base := by
    have : base * rsf n base above (a + i) ≤ base * n := Nat.mul_le_mul_left _ (Nat.le_of_lt h1)
    exact Nat.div_le_of_le_mul (by rw [Nat.mul_comm n]; exact this)
  omega
theorem red_low {a b : Nat} (ha : a ≤ 1000) (hb : b ≤ 1000) : (red a b).1.natAbs < 10 ^ 40 ∧ (red a b).2.natAbs < 10 ^ 40 := by
  unfold red
  have h1 : a / Nat.gcd a b ≤ a := Nat.div_le_self _ _
  have h2 : b / Nat.gcd a b ≤ b := Nat.div_le_self _ _
  constructor
  · show (((a / Nat.gcd a b : Nat) : Int)).natAbs < _
    rw [Int.natAbs_natCast]; omega
  · show (((b / Nat.gcd a b : Nat) : Int)).natAbs < _
    rw [Int.natAbs_natCast]; omega
theorem fr2_low {a n : Nat} (ha : a < n) (hn : n ≤ 200) : (fr2 a n).1.natAbs < 10 ^ 40 ∧ (fr2 a n).2.natAbs < 10 ^ 40 := by
  unfold fr2
  split
  · exact ⟨by decide, by decide⟩
  · exact red_low (by omega) (by omega)
theorem figures_right_ok {s : PotT} {b : Nat} (h : Pot s (b + 6)) : Tt s m__law_are_figures_right fun a _ => a = true := by
  unfold m__law_are_figures_right
  refine tt_grd.mpr ⟨by decide, (one_ok h (by simp) (by simp)).then fun r s1 ⟨hr, hp1⟩ => ?_⟩
  have hr2 : r = 30 ∨ r = 200 := by simpa using hr
  refine (of_ok hp1 (by omega) (Int.lt_of_le_of_lt (b := 200) (by omega) (by decide +kernel))).then fun n' s2 ⟨hn1, hn2, hp2⟩ => tt_bnd.mpr ?_
  obtain ⟨n, hn⟩ : ∃ n : Nat, (1 : Int) + n' = n := ⟨(1 + n').toNat, by omega⟩
  rw [hn]
  refine (of_ok hp2 (by decide) (by decide +kernel)).then fun b' s3 ⟨hb1, hb2, hp3⟩ => tt_bnd.mpr ?_
  obtain ⟨base, hb⟩ : ∃ n : Nat, (2 : Int) + b' = n := ⟨(2 + b').toNat, by omega⟩
  rw [hb]
  have n1 : 1 ≤ n := by omega
  have n2 : n ≤ 200 := by omega
  have c1 : 2 ≤ base := by omega
  have c2 : base ≤ 36 := by omega
  clear hr hr2 hn1 hn2 hn hb1 hb2 hb
  obtain ⟨p, T, K, hf⟩ := fr_of n1 n2 c2
  have pn : p ≤ n := Nat.le_of_dvd n1 hf.pd
  have p0 := hf.p0
  have Tl := hf.ah.l
  refine tt_bnd.mpr (tt_bnd.mpr (tt_bnd.mpr (tt_bind.mpr (prt_loop (fun a b hb => law_common_ok hb) n1 (by omega) (by omega) ?_))))
  rw [hf.pe]
  refine tt_bind.mpr (t_loop2 n1 (by omega) (by omega) hf.ah fun y => ?_)
  have hK : K ≤ 20000 := by
    by_cases z : p = 1
    · rw [hf.k1 z]; decide
    · have hl := lf_of (n := p) (by omega) (by omega)
      have h2 := hf.k2 (by omega)
      have hlam := greatest_order_ok (n := p) (by omega) (by omega) hl.lo
      have h3 := (h2.2.2.2 (lam p)).mp (hl.od base (by rw [Nat.gcd_comm]; exact hf.pc))
      have := Nat.le_of_dvd hlam.2 h3
      have := hl.lm
      omega
  refine Tt.then (P' := fun c s' => c = (K : Int) ∧ s' = s3) ?_ ?_
  · by_cases z : p = 1
    · refine Tt.pos (by rw [decide_eq_true_iff]; omega) (tt_pure.mpr ⟨?_, rfl⟩)
      rw [hf.k1 z]; rfl
    · refine Tt.neg (by rw [decide_eq_true_iff]; omega) ?_
      exact (tt_lft (hf.k2 (by omega)).2.1).mpr (tt_pure.mpr ⟨rfl, rfl⟩)
  rintro c s' ⟨rfl, rfl⟩
  have efr := figure_round_ok n1 n2 c2 hf
  have okp := ok_pairs (a := (T : Int)) (b := (K : Int)) (c := (T : Int)) (d := (K : Int)) (by omega) (by omega) (by omega) (by omega)
  refine tt_bnd.mpr ((tt_lft efr).mpr ((tt_lft efr).mpr (tt_grd.mpr ⟨by simp, tt_bnd.mpr (tt_grd.mpr ⟨okp, tt_grd.mpr ⟨by simp, tt_grd.mpr ⟨⟨by decide, by decide, by simp⟩, tt_bnd.mpr (tt_grd.mpr ⟨okp, tt_grP.mpr ⟨rfl, Tt.neg (by decide) ?_⟩⟩)⟩⟩⟩)⟩)))
  refine (of_ok hp3 (by omega) (Int.lt_of_le_of_lt (b := 200) (by omega) (by decide +kernel))).then fun a' s4 ⟨ha1, ha2, hp4⟩ => tt_bnd.mpr ?_
  obtain ⟨above, rfl⟩ : ∃ n : Nat, a' = n := ⟨a'.toNat, by omega⟩
  have han : above < n := by omega
  refine (of_ok hp4 (by decide) (by decide +kernel)).then fun m' s5 ⟨hm1, hm2, hp5⟩ => tt_bnd.mpr ?_
  obtain ⟨m, rfl⟩ : ∃ n : Nat, m' = n := ⟨m'.toNat, by omega⟩
  refine tt_bnd.mpr (tt_grd.mpr ⟨by decide, tt_bnd.mpr (tt_grd.mpr ⟨⟨by omega, by omega⟩, Tt.then (P' := fun st s' => st.2 = seg n base above 0 m ∧ s' = s5) ?_ ?_⟩)⟩)
  · refine (Tt.rg (I := fun (x : Int) (st : Int × List Int) s' => ∃ k : Nat, x = k ∧ k ≤ m ∧ st = ((rsf n base above k : Int), seg n base above 0 k) ∧ s' = s5) ?_ m 0 _ _ (by omega) ⟨0, rfl, by omega, rfl, rfl⟩).mono fun st _ ⟨k, e, _, e2, e3⟩ => by
      have : k = m := by omega
      rw [e2, this]
      exact ⟨rfl, e3⟩
    rintro x st s' hx ⟨k, rfl, hk, rfl, rfl⟩
    have hr := rsf_lt (base := base) han k
    have sb : Sm (base : Int) := sm_nat (by omega)
    have sr : Sm (rsf n base above k : Int) := sm_nat (by omega)
    have hl : (seg n base above 0 k).length = k := seg_len
    refine tt_grd.mpr ⟨⟨sr, sb⟩, tt_grd.mpr ⟨dv_nat (by omega) (by omega), tt_grd.mpr ⟨by show (seg n base above 0 k).length < _; rw [hl]; omega, tt_bnd.mpr (tt_grd.mpr ⟨⟨sr, sb⟩, tt_grd.mpr ⟨by omega, tt_bnd.mpr (tt_pure.mpr ⟨k + 1, by push_cast; rfl, by omega, ?_, rfl⟩)⟩⟩)⟩⟩⟩
    refine Prod.ext ?_ ?_
    · show (rsf n base above k : Int) * (base : Int) % (n : Int) = ((base * rsf n base above k % n : Nat) : Int)
      rw [← Int.natCast_mul, nmod, Nat.mul_comm]
    · show seg n base above 0 k ++ [(rsf n base above k : Int) * (base : Int) / (n : Int)] = seg n base above 0 (k + 1)
      rw [← seg_app (k := k) (j := 1), Nat.zero_add, ← Int.natCast_mul, ndiv, Nat.mul_comm (rsf n base above k)]
      rfl
  rintro ⟨st1, st2⟩ s' ⟨est, rfl⟩
  have est : st2 = seg n base above 0 m := est
  subst est
  have efg : m_figures_of above n base m = some (seg n base above 0 m) := by rw [figures_of_ok han (by omega) (by omega) (by omega), figs_seg]
  have okr := ok_rows (l := seg n base above 0 m) (r := seg n base above 0 m) (by rw [seg_len]; omega) (by rw [seg_len]; omega) (seg_low han c2) (seg_low han c2)
  refine (tt_lft efg).mpr ((tt_lft efg).mpr (tt_grd.mpr ⟨by simp, tt_bnd.mpr (tt_bnd.mpr (tt_grd.mpr ⟨okr, tt_grd.mpr ⟨by simp, tt_grd.mpr ⟨⟨by decide, by decide, by simp⟩, tt_bnd.mpr (tt_grd.mpr ⟨okr, tt_grP.mpr ⟨rfl, Tt.neg (by decide) ?_⟩⟩)⟩⟩⟩))⟩))
  obtain ⟨j, e, hr, hro⟩ := round_figures_ok (n := n) (base := base) han (by omega) (by omega)
  have hle := hr.le
  have hen := hr.en
  refine (tt_lft hro).mpr (tt_bnd.mpr ((tt_lft (law_common_ok (by omega))).mpr (Tt.neg ?_ ?_)))
  · show ¬ ((decide (((Nat.gcd above n : Nat) : Int) = 1)) && (!decide ((((seg n base above 0 j).length : Int), ((seg n base above j (e - j)).length : Int)) = ((T : Int), (K : Int))))) = true
    rw [seg_len, seg_len]
    by_cases z : Nat.gcd above n = 1
    · obtain ⟨q1, q2⟩ := rounds_len hf c1 han z hr
      rw [q2, q1, decide_eq_true (show (((T : Nat) : Int), ((K : Nat) : Int)) = ((T : Int), (K : Int)) from rfl)]
      rw [Bool.not_true, Bool.and_false]; decide
    · rw [decide_eq_false (show ¬ ((Nat.gcd above n : Nat) : Int) = 1 by omega), Bool.false_and]; decide
  have hrow : ∃ L, 60 ≤ L ∧ L ≤ 20000 ∧ seg n base above 0 j ++ (List.replicate (Int.toNat (60 : Int)) (if (!decide (seg n base above j (e - j) = ([] : List Int))) = true then seg n base above j (e - j) else [(0 : Int)])).flatten = seg n base above 0 L := by
    rcases hr.wy with ⟨w1, w2⟩ | ⟨w1, w2, w3⟩
    · subst w2
      have es : seg n base above j (j - j) = [] := by rw [Nat.sub_self]; rfl
      refine ⟨j + 60, by omega, by omega, ?_⟩
      rw [es, if_neg (by decide), show Int.toNat (60 : Int) = 60 from rfl, seg_zero n1 w1 60, ← seg_app (a := 0) (k := j) (j := 60), Nat.zero_add]
    · have es : seg n base above j (e - j) ≠ [] := fun q => by
        have := congrArg List.length q
        rw [seg_len] at this
        simp at this
        omega
      refine ⟨j + 60 * (e - j), by omega, by omega, ?_⟩
      rw [if_pos (by rw [decide_eq_false es]; rfl), show Int.toNat (60 : Int) = 60 from rfl, seg_rep (by rw [Nat.add_sub_cancel' hle]; exact w3) 60, ← seg_app (a := 0) (k := j), Nat.zero_add]
  obtain ⟨L, hL1, hL2, hrow⟩ := hrow
  have hlen : (if (!decide (seg n base above j (e - j) = ([] : List Int))) = true then seg n base above j (e - j) else [(0 : Int)]).length ≤ 400 := by
    split
    · rw [seg_len]; omega
    · simp
  refine tt_grd.mpr ⟨by decide, tt_grd.mpr ⟨⟨by decide, by decide, ?_⟩, tt_grd.mpr ⟨?_, tt_bnd.mpr ?_⟩⟩⟩
  · show _ * 60 ≤ _
    show (if (!decide (seg n base above j (e - j) = ([] : List Int))) = true then seg n base above j (e - j) else [(0 : Int)]).length * 60 ≤ 16000000
    omega
  · have := congrArg List.length hrow
    rw [List.length_append, seg_len, seg_len] at this
    show (seg n base above 0 j).length + _ ≤ 16000000
    rw [seg_len, this]; omega
  show Tt s' (if (!decide ((cut (seg n base above 0 j ++ (List.replicate (Int.toNat (60 : Int)) (if (!decide (seg n base above j (e - j) = ([] : List Int))) = true then seg n base above j (e - j) else [(0 : Int)])).flatten) none (some (m : Int))) = (cut (seg n base above 0 m) none (some (List.length (seg n base above 0 j ++ (List.replicate (Int.toNat (60 : Int)) (if (!decide (seg n base above j (e - j) = ([] : List Int))) = true then seg n base above j (e - j) else [(0 : Int)])).flatten) : Int))))) = true then _ else _) _
  rw [hrow, seg_len, cut_head, cut_head, seg_take (by omega), List.take_of_length_le (by rw [seg_len]; omega)]
  refine Tt.neg (by rw [decide_eq_true rfl]; decide) ?_
  show Tt s' (if ((decide (((seg n base above 0 j).length : Int) ≤ (30 : Int))) && (decide (((seg n base above j (e - j)).length : Int) ≤ (30 : Int)))) = true then _ else _) _
  rw [seg_len, seg_len]
  by_cases z : j ≤ 30 ∧ e - j ≤ 30
  · refine Tt.pos (by rw [decide_eq_true (by omega), decide_eq_true (by omega)]; rfl) ?_
    have h1 := law_made2_ok han n2
    have h2 := fraction_by_ok han n2 c1 c2 hr z.1 z.2
    have hl := fr2_low han n2
    have ok := ok_pairs hl.1 hl.2 hl.1 hl.2
    exact (tt_lft h1).mpr (tt_bnd.mpr ((tt_lft h2).mpr ((tt_lft h2).mpr (tt_grd.mpr ⟨by simp, tt_bnd.mpr (tt_bnd.mpr (tt_grd.mpr ⟨ok, tt_grd.mpr ⟨by simp, tt_bnd.mpr (tt_grd.mpr ⟨ok, tt_grP.mpr ⟨rfl, tt_bnd.mpr (tt_pure.mpr rfl)⟩⟩)⟩⟩))⟩))))
  · refine Tt.neg ?_ (tt_bnd.mpr (tt_pure.mpr rfl))
    rw [Bool.and_eq_true, decide_eq_true_iff, decide_eq_true_iff]
    omega
end Wk
set_option Elab.async false
set_option maxRecDepth 100000
set_option maxHeartbeats 4000000
set_option linter.all false
/-! A92i: the law, whole -/
namespace Wk
open PySem L2
open PyProof.Rows hiding St
local macro_rules | `(tactic| walk_at "gd") => `(tactic| first | decide | omega | exact sm_small (by omega) | exact ⟨sm_small (by omega), sm_small (by omega)⟩ | exact dv_s (by omega) (by omega) | exact ⟨by omega, by omega⟩ | exact ⟨⟨by omega, by omega⟩, ⟨by omega, by omega⟩⟩ | (simp; done) | (simp; omega) | exact ⟨by decide, by decide, by simp; done⟩ | exact ⟨by decide, by decide, by simp; omega⟩)
local macro_rules | `(tactic| walk_at "g1") => `(tactic| first | with_reducible refine tt_bnd.mpr ?_ | (with_reducible refine tt_grd.mpr (And.intro ?_ ?_); focus (walk_at "gd"; done)) | with_reducible refine (tt_lft (by assumption)).mpr ?_ | (with_reducible refine tt_grP.mpr (And.intro ?_ ?_); focus (rfl; done)) | with_reducible refine Tt.neg Bool.false_ne_true ?_ | with_reducible refine Tt.neg (by with_reducible assumption) ?_ | with_reducible refine Tt.pos (by with_reducible assumption) ?_)
local macro_rules | `(tactic| walk_at "go") => `(tactic| repeat walk_at "g1")
structure NF (n : Nat) : Prop where
  lo : ∀ a ∈ rs n, m__law_order a n = some (od n a : Int)
  rn : m_rests_number n = some ((rs n).length : Int)
  cc : m_coprime_count n = some ((rs n).length : Int)
  cp : m_coprimes_of n = some (ci (rs n))
  oc : m_order_counts n = some (dueI n)
  go : m_greatest_order n = (ci (os n)).max?
  dl : (dd (ci (os n))).length < 64
  hr : m_has_root n = some (hasR n)
  rk : m_roots_number n = some ((rts n).length : Int)
  du : (dueI n).length ≤ 500 ∧ ∀ x ∈ dueI n, x.1.natAbs < 10 ^ 6 ∧ x.2.natAbs < 10 ^ 6
  rp : ∃ p, m_root_paper n = some p ∧ decide (p.1 = ("root" : Str)) = hasR n ∧ m_root_paper_error n p = some none
  lr : ∀ r l, rts n = r :: l → m_least_root n = some (r : Int) ∧ ∃ c, m_coprime_count n = some c ∧ m_coprime_count c = some ((rts n).length : Int)
  ri : ∀ w ∈ rts n, ∀ b ∈ rs n, ∃ k, k ≤ (rs n).length ∧ w ^ k % n = b % n
theorem msk_bit {f : Nat → Nat} {b : Nat} (l : List Nat) : (msk f l).testBit b = true ↔ ∃ k ∈ l, f k = b := by
  have key : ∀ (l : List Nat) (z : Nat), (l.foldl (fun acc k => acc ||| 2 ^ f k) z).testBit b = true ↔ z.testBit b = true ∨ ∃ k ∈ l, f k = b := by
    intro l
    induction l with
    | nil => intro z; simp
    | cons x l ih =>
      intro z
      rw [List.foldl_cons, ih, Nat.testBit_or, Bool.or_eq_true, Nat.testBit_two_pow, decide_eq_true_iff]
      constructor
      · rintro ((h | h) | ⟨k, hk, h⟩)
        · exact .inl h
        · exact .inr ⟨x, List.mem_cons_self .., h⟩
        · exact .inr ⟨k, List.mem_cons_of_mem _ hk, h⟩
      · rintro (h | ⟨k, hk, h⟩)
        · exact .inl (.inl h)
        · rcases List.mem_cons.mp hk with e | e
          · subst e; exact .inl (.inr h)
          · exact .inr ⟨k, e, h⟩
  unfold msk
  rw [key l 0]
  simp
theorem law_order1 : m__law_order ((1 : Nat) : Int) ((1 : Nat) : Int) = some (1 : Int) := by decide +kernel
theorem nf_of {n : Nat} (h1 : 1 ≤ n) (h2 : n ≤ 130) : NF n := by
  have h := ckN_of h1 h2
  unfold ckN at h
  rw [Bool.and_eq_true, Bool.and_eq_true, Bool.and_eq_true, Bool.and_eq_true] at h
  obtain ⟨c1, c2, c3, c4, c5⟩ := h
  unfold ck2 at c2
  rw [Bool.and_eq_true, Bool.and_eq_true, decide_eq_true_iff, decide_eq_true_iff, decide_eq_true_iff] at c2
  obtain ⟨⟨a1, a2⟩, a3⟩ := c2
  unfold ck3 at c3
  simp only [Bool.and_eq_true, decide_eq_true_iff, List.all_eq_true] at c3
  obtain ⟨⟨⟨⟨⟨b1, b2⟩, b3⟩, b4⟩, b5⟩, b6, b7⟩ := c3
  refine ⟨fun a ha => ?_, a1, a2, a3, b1, b2, b3, b4, b5, ⟨Nat.le_of_ble_eq_true b6, b7⟩, ?_, ?_, ?_⟩
  · by_cases z : n = 1
    · subst z
      have ha : a ∈ [1] := ha
      rw [List.mem_singleton.mp ha]
      exact law_order1
    · unfold ck1 at c1
      rw [Bool.or_eq_true, Nat.beq_eq] at c1
      have := List.all_eq_true.mp (c1.resolve_left z) a ha
      simp only [Bool.and_eq_true, List.all_eq_true, List.mem_range, Bool.or_eq_true, Nat.beq_eq, Bool.not_eq_true'] at this
      obtain ⟨⟨⟨d1, d2⟩, d3⟩, d4⟩ := this
      have ha2 : a ≤ 200 := by
        obtain ⟨hm, _⟩ := List.mem_filter.mp ha
        obtain ⟨i, hi, rfl⟩ := List.mem_map.mp hm
        have := List.mem_range.mp hi
        omega
      refine law_order_ok (by omega) (by omega) (by omega) (Nat.le_of_ble_eq_true d1) (Nat.le_of_ble_eq_true d2) d3 fun j hj hjK e => ?_
      rcases d4 j hjK with q | q
      · omega
      · exact Nat.ne_of_beq_eq_false q e
  · unfold ck4 at c4
    cases hp : m_root_paper n with
    | none => rw [hp] at c4; cases c4
    | some p =>
      rw [hp] at c4
      have c4 : ((decide (p.1 = ("root" : Str)) == hasR n) && decide (m_root_paper_error n p = some none)) = true := c4
      rw [Bool.and_eq_true, beq_iff_eq, decide_eq_true_iff] at c4
      exact ⟨p, rfl, c4.1, c4.2⟩
  · intro r l e
    unfold ck5 at c5
    rw [e] at c5
    have c5 : (decide (m_least_root n = some (r : Int)) && decide ((m_coprime_count n).bind m_coprime_count = some ((r :: l).length : Int)) && (r :: l).all fun w => Nat.beq (msk (fun k => w ^ k % n) (List.range (rs n).length)) (msk (fun b => b % n) (rs n))) = true := c5
    rw [Bool.and_eq_true, Bool.and_eq_true, decide_eq_true_iff, decide_eq_true_iff] at c5
    obtain ⟨⟨d1, d2⟩, _⟩ := c5
    refine ⟨d1, _, a2, ?_⟩
    rw [a2] at d2
    rw [e]; exact d2
  · intro w hw b hb
    cases e : rts n with
    | nil => rw [e] at hw; cases hw
    | cons r l =>
      unfold ck5 at c5
      rw [e] at c5
      have c5 : (decide (m_least_root n = some (r : Int)) && decide ((m_coprime_count n).bind m_coprime_count = some ((r :: l).length : Int)) && (r :: l).all fun w => Nat.beq (msk (fun k => w ^ k % n) (List.range (rs n).length)) (msk (fun b => b % n) (rs n))) = true := c5
      rw [Bool.and_eq_true] at c5
      have := List.all_eq_true.mp c5.2 w (by rw [← e]; exact hw)
      have := Nat.eq_of_beq_eq_true this
      have hbit := (msk_bit (f := fun b => b % n) (b := b % n) (rs n)).mpr ⟨b, hb, rfl⟩
      rw [← this] at hbit
      obtain ⟨k, hk, hk2⟩ := (msk_bit _).mp hbit
      exact ⟨k, Nat.le_of_lt (List.mem_range.mp hk), hk2⟩
theorem zip_ci {m : Nat} : ∀ a b : List Nat, List.map (fun x : Int × Int => x.1) (List.filter (fun x : Int × Int => decide (x.2 = (m : Int))) (List.zip (ci a) (ci b))) = ci (((a.zip b).filter fun x => Nat.beq x.2 m).map fun x => x.1)
  | [], _ => rfl
  | _ :: _, [] => rfl
  | x :: a, y :: b => by
    have ih := zip_ci (m := m) a b
    show List.map _ (List.filter _ (((x : Int), (y : Int)) :: List.zip (ci a) (ci b))) = ci ((((x, y) :: a.zip b).filter _).map _)
    rw [List.filter_cons, List.filter_cons]
    by_cases z : y = m
    · rw [if_pos (decide_eq_true (by show (y : Int) = m; omega)), if_pos (show Nat.beq y m = true by rw [Nat.beq_eq]; exact z), List.map_cons, List.map_cons, ih]; rfl
    · rw [if_neg (by rw [decide_eq_true_iff]; show ¬ (y : Int) = m; omega), if_neg (show ¬ Nat.beq y m = true by rw [Nat.beq_eq]; exact z), ih]
theorem mem_rs {n a : Nat} : a ∈ rs n ↔ 1 ≤ a ∧ a ≤ n ∧ Nat.gcd a n = 1 := by
  unfold rs
  rw [List.mem_filter, List.mem_map, Nat.beq_eq]
  constructor
  · rintro ⟨⟨i, hi, rfl⟩, h⟩
    have := List.mem_range.mp hi
    exact ⟨by omega, by omega, h⟩
  · rintro ⟨h1, h2, h3⟩
    exact ⟨⟨a - 1, List.mem_range.mpr (by omega), by omega⟩, h3⟩
theorem rs_len {n : Nat} : (rs n).length ≤ n := by
  unfold rs
  refine Nat.le_trans (List.length_filter_le ..) ?_
  rw [List.length_map, List.length_range]; exact Nat.le_refl _
theorem rests_eq {n : Nat} : (rng 1 ((n : Int) + 1)).filterMap (fun x : Int => if Nat.gcd x.toNat n = 1 then some x else none) = ci (rs n) := by
  have e : rng 1 ((n : Int) + 1) = (List.range n).map fun k : Nat => (1 : Int) + (k : Int) := by
    unfold rng
    have : ((n : Int) + 1 - 1).toNat = n := by omega
    rw [this]
  rw [e]
  unfold rs
  generalize List.range n = l
  induction l with
  | nil => rfl
  | cons k l ih =>
    rw [List.map_cons, List.map_cons, List.filterMap_cons, List.filter_cons]
    have : ((1 : Int) + (k : Int)).toNat = k + 1 := by omega
    rw [this]
    by_cases z : Nat.gcd (k + 1) n = 1
    · rw [if_pos z, if_pos (show Nat.beq (Nat.gcd (k + 1) n) 1 = true by rw [Nat.beq_eq]; exact z)]
      show ((1 : Int) + (k : Int)) :: _ = ((k + 1 : Nat) : Int) :: ci _
      rw [ih]
      congr 1
      omega
    · rw [if_neg z, if_neg (show ¬ Nat.beq (Nat.gcd (k + 1) n) 1 = true by rw [Nat.beq_eq]; exact z)]
      exact ih
theorem power_order1 : ∀ j, j < 9 → m_power_order ((1 + 1 * j : Nat) : Int) ((1 : Nat) : Int) = some (1 : Int) := by decide +kernel
theorem po_shift {n a j : Nat} (h1 : 1 ≤ n) (h2 : n ≤ 130) (hn : NF n) (ha : a ∈ rs n) (hj : j < 9) : m_power_order ((a + n * j : Nat) : Int) n = some (od n a : Int) := by
  by_cases z : n = 1
  · subst z
    have ha : a ∈ [1] := ha
    rw [List.mem_singleton.mp ha]
    exact power_order1 j hj
  · obtain ⟨b1, b2, b3⟩ := mem_rs.mp ha
    have hl := lf_of (n := n) (by omega) (by omega)
    have hmod : (a + n * j) % n = a % n := Nat.add_mul_mod_self_left _ _ _
    have hg : Nat.gcd (a + n * j) n = 1 := by rw [← gcd_mod_one, hmod, gcd_mod_one, b3]
    have hnj : n * j ≤ 130 * 9 := Nat.mul_le_mul h2 (by omega)
    obtain ⟨K, k1, _, k3, k4⟩ := order_both (a := a + n * j) (n := n) (by omega) (by omega) (by omega) hl.lo hl.lm hg (hl.od _ hg)
    obtain ⟨K', _, k2', k3', k4'⟩ := order_both (a := a) (n := n) (by omega) (by omega) (by omega) hl.lo hl.lm b3 (hl.od _ b3)
    have e : K = K' := by
      have hc : ∀ m, (a + n * j) ^ m % n = a ^ m % n := fun m => pow_cong hmod m
      refine Nat.dvd_antisymm ((k4 K').mp ?_) ((k4' K).mp ?_)
      · rw [hc]; exact (k4' K').mpr (Nat.dvd_refl _)
      · rw [← hc]; exact (k4 K).mpr (Nat.dvd_refl _)
    rw [hn.lo a ha] at k2'
    have := Option.some.inj k2'
    rw [k1, e, ← this]
section
variable {n w b T : Nat}
theorem pw_step (i : Nat) : ((w ^ i % n : Nat) : Int) * (w : Int) % (n : Int) = ((w ^ (i + 1) % n : Nat) : Int) := by
  rw [mulmod, Nat.mul_mod, Nat.mod_mod, ← Nat.mul_mod, ← Nat.pow_succ]
theorem ne_dec {x y : Nat} : (!decide (((x : Nat) : Int) = (y : Int))) = !decide (x = y) := by
  congr 1
  exact decide_eq_decide.mpr (by omega)
theorem one_mod0 : ((1 : Int) % (n : Int)) = ((w ^ 0 % n : Nat) : Int) := by rw [Nat.pow_zero]; rfl
theorem index_ok (hn : 1 ≤ n) (hn2 : n ≤ 1000) (hw : w ≤ 1000) (hT : w ^ T % n = b % n) (hm : ∀ i, i < T → w ^ i % n ≠ b % n) (hl : T ≤ 1000) : m_root_index n w b = some (T : Int) := by
  unfold m_root_index
  refine tt_eq (tt_bnd.mpr (tt_grd.mpr ⟨by omega, tt_bnd.mpr (Tt.then (P' := fun st _ => st.1 = (T : Int)) ?_ fun st _ e => by rw [e]; exact tt_bnd.mpr (tt_pure.mpr rfl))⟩))
  rw [one_mod0 (w := w), nmod]
  refine Tt.wh (I := fun (st : Int × Int) _ => ∃ i : Nat, st = ((i : Int), ((w ^ i % n : Nat) : Int)) ∧ i ≤ T) (nu := fun st => T - st.1.toNat) ?_ many _ _ ⟨0, rfl, Nat.zero_le _⟩ (lt_many (by show T - _ < _; omega))
  rintro st s k P ⟨i, rfl, hi⟩ hk
  have hlt : w ^ i % n < n := Nat.mod_lt _ (by omega)
  refine tt_grd.mpr ⟨by omega, hk _ _ (fun ht => ?_) (fun ht => ?_)⟩
  · have ht : (!decide (((w ^ i % n : Nat) : Int) = ((b % n : Nat) : Int))) = true := ht
    rw [ne_dec, Bool.not_eq_true', decide_eq_false_iff_not] at ht
    have : i ≠ T := by rintro rfl; exact ht hT
    refine tt_bnd.mpr (tt_grd.mpr ⟨⟨sm_nat (by show w ^ i % n ≤ _; omega), sm_nat (by omega)⟩, tt_grd.mpr ⟨by omega, tt_bnd.mpr (tt_pure.mpr ⟨⟨i + 1, ?_, by omega⟩, ?_⟩)⟩⟩)
    · exact Prod.ext (by push_cast; rfl) (pw_step i)
    · show T - ((i : Int) + 1).toNat < T - (i : Int).toNat
      omega
  · have ht : (!decide (((w ^ i % n : Nat) : Int) = ((b % n : Nat) : Int))) = false := ht
    rw [ne_dec, Bool.not_eq_false', decide_eq_true_iff] at ht
    have : i = T := Classical.byContradiction fun z => hm i (by omega) ht
    rw [this]
theorem index_loop {P : Int × Int → PotT → Prop} {s : PotT} (hn : 1 ≤ n) (hn2 : n ≤ 1000) (hw : w ≤ 1000) (hT : w ^ T % n = b % n) (hm : ∀ i, i < T → w ^ i % n ≠ b % n) (hl : T ≤ 1000) (hP : ∀ x, P (x, (T : Int)) s) :
    Tt s (whS (μ := PM PotT) many (fun (st : Int × Int) k => Mir.lft (grd (0 < (n : Int))) >>= fun _ => k (!decide (st.1 = ((b : Int) % (n : Int))))) (fun (st : Int × Int) =>
      Mir.lft (grd (Sm st.1 ∧ Sm (w : Int))) >>= fun _ => Mir.lft (grd (0 < (n : Int))) >>= fun _ => bnd ((st.1 * (w : Int)) % (n : Int)) fun own => bnd (st.2 + (1 : Int)) fun k => pure (own, k)) ((1 : Int) % (n : Int), (0 : Int))) P := by
  rw [one_mod0 (w := w), nmod]
  refine Tt.wh (I := fun (st : Int × Int) s' => ∃ i : Nat, st = (((w ^ i % n : Nat) : Int), (i : Int)) ∧ i ≤ T ∧ s' = s) (nu := fun st => T - st.2.toNat) ?_ many _ _ ⟨0, rfl, Nat.zero_le _, rfl⟩ (lt_many (by show T - _ < _; omega))
  rintro st s' k Q ⟨i, rfl, hi, rfl⟩ hk
  have hlt : w ^ i % n < n := Nat.mod_lt _ (by omega)
  refine tt_grd.mpr ⟨by omega, hk _ _ (fun ht => ?_) (fun ht => ?_)⟩
  · have ht : (!decide (((w ^ i % n : Nat) : Int) = ((b % n : Nat) : Int))) = true := ht
    rw [ne_dec, Bool.not_eq_true', decide_eq_false_iff_not] at ht
    have : i ≠ T := by rintro rfl; exact ht hT
    refine tt_grd.mpr ⟨⟨sm_nat (by show w ^ i % n ≤ _; omega), sm_nat (by omega)⟩, tt_grd.mpr ⟨by omega, tt_bnd.mpr (tt_bnd.mpr (tt_pure.mpr ⟨⟨i + 1, ?_, by omega, rfl⟩, ?_⟩))⟩⟩
    · exact Prod.ext (pw_step i) (by push_cast; rfl)
    · show T - ((i : Int) + 1).toNat < T - (i : Int).toNat
      omega
  · have ht : (!decide (((w ^ i % n : Nat) : Int) = ((b % n : Nat) : Int))) = false := ht
    rw [ne_dec, Bool.not_eq_false', decide_eq_true_iff] at ht
    have : i = T := Classical.byContradiction fun z => hm i (by omega) ht
    rw [this]
    exact hP _
end
theorem ok_ints {l : List Int} (hl : l.length ≤ 10) (h : ∀ x ∈ l, x.natAbs ≤ 10 ^ 30) : OkD (PyData.list (l.map PyData.int)) :=
  (shp_list (n := 10) (by rw [List.length_map]; exact hl) (shp_map fun a ha => shp_int (by have := h a ha; omega))).ok (by decide) (by decide)
theorem ok_due {l : List (Int × Int)} (h : l.length ≤ 500 ∧ ∀ x ∈ l, x.1.natAbs < 10 ^ 6 ∧ x.2.natAbs < 10 ^ 6) : OkD (PyData.list [PyData.tuple (l.map fun a => PyData.tuple [PyData.int a.1, PyData.int a.2]), PyData.tuple (l.map fun a => PyData.tuple [PyData.int a.1, PyData.int a.2])]) := by
  have q : Shp 2 (500 * 202 + 3) (PyData.tuple (l.map fun a => PyData.tuple [PyData.int a.1, PyData.int a.2])) :=
    shp_tup (n := 500) (by rw [List.length_map]; exact h.1) (shp_map fun a ha => shp_pair (by have := h.2 a ha; omega) (by have := h.2 a ha; omega))
  exact (shp_list (n := 2) (by simp) (Shp.lc q q.l1)).ok (by decide) (by decide)
theorem ci_get {l : List Nat} {i : Nat} (h : i < l.length) : L2.atI (ci l) (i : Int) = some (l[i] : Int) := by
  rw [atI_nat (by rw [ci_len]; exact h)]
  unfold ci
  rw [List.getElem?_map, List.getElem?_eq_getElem h]; rfl
theorem law_ok {s : PotT} (h : Pot s 1000) : Tt s m_law fun a _ => a = true := by
  unfold m_law
  refine tt_grd.mpr ⟨by decide, (one_ok (b := 999) h (by simp) (by simp)).then fun r s1 ⟨hr, hp1⟩ => ?_⟩
  have hr2 : r = 20 ∨ r = 130 := by simpa using hr
  refine (of_ok (b := 998) hp1 (by omega) (Int.lt_of_le_of_lt (b := 200) (by omega) (by decide +kernel))).then fun n' s2 ⟨hn1, hn2, hp2⟩ => tt_bnd.mpr ?_
  refine tt_grd.mpr ⟨by simp, (one_ok (b := 997) hp2 (by simp) (by simp)).then fun m s3 ⟨hm, hp3⟩ => tt_bnd.mpr ?_⟩
  obtain ⟨n, rfl, n1, n2⟩ : ∃ n : Nat, m = n ∧ 1 ≤ n ∧ n ≤ 130 := by
    refine ⟨m.toNat, ?_⟩
    simp only [List.mem_cons, List.not_mem_nil, or_false] at hm
    omega
  clear hr hr2 hn1 hn2 hm hp1 hp2
  have hN := nf_of n1 n2
  have hrl := rs_len (n := n)
  have hol : (os n).length = (rs n).length := by unfold os; rw [List.length_map]
  have h1m : 1 ∈ rs n := mem_rs.mpr ⟨by decide, n1, Nat.gcd_one_left n⟩
  have hpos : 0 < (rs n).length := List.length_pos_of_mem h1m
  refine tt_grd.mpr ⟨⟨⟨by omega, by omega⟩, ⟨by omega, by omega⟩⟩, tt_grd.mpr ⟨by rw [rng_len]; omega, ?_⟩⟩
  refine tt_filterMap (g := fun x : Int => if Nat.gcd x.toNat n = 1 then some x else none) (fun x hx s' Q hQ => ?_) ?_
  · obtain ⟨y1, y2⟩ := mem_rng.mp hx
    obtain ⟨y, rfl⟩ : ∃ y : Nat, x = y := ⟨x.toNat, by omega⟩
    rw [Int.toNat_natCast] at hQ
    refine (tt_lft (law_common_ok (by omega))).mpr ?_
    by_cases z : Nat.gcd y n = 1
    · rw [if_pos z] at hQ
      exact Tt.pos (by rw [decide_eq_true_iff]; omega) (tt_pure.mpr hQ)
    · rw [if_neg z] at hQ
      exact Tt.neg (by rw [decide_eq_true_iff]; omega) (tt_pure.mpr hQ)
  rw [rests_eq]
  refine tt_bnd.mpr (tt_grd.mpr ⟨by rw [ci_len]; omega, ?_⟩)
  refine tt_map (g := fun x : Int => (od n x.toNat : Int)) (fun x hx s' Q hQ => ?_) ?_
  · obtain ⟨y, hy, rfl⟩ := List.mem_map.mp hx
    exact (tt_lft (hN.lo y hy)).mpr (tt_pure.mpr hQ)
  have eo : List.map (fun x : Int => (od n x.toNat : Int)) (ci (rs n)) = ci (os n) := by
    unfold ci os
    rw [List.map_map, List.map_map]; rfl
  rw [eo]
  have okl : OkD (PyData.list (List.map PyData.int [((rs n).length : Int), ((rs n).length : Int), ((rs n).length : Int)])) := ok_ints (by simp) (by simp; omega)
  refine tt_bnd.mpr ((tt_lft hN.rn).mpr ((tt_lft hN.cc).mpr ((tt_lft hN.rn).mpr (tt_grd.mpr ⟨by simp, tt_bnd.mpr (tt_grd.mpr ⟨okl, tt_grd.mpr ⟨by simp, tt_grd.mpr ⟨⟨by decide, by decide, by simp⟩, tt_bnd.mpr ?_⟩⟩⟩)⟩))))
  rw [ci_len]
  refine tt_grd.mpr ⟨okl, tt_grP.mpr ⟨rfl, Tt.neg (by decide) ?_⟩⟩
  refine (tt_lft hN.cp).mpr (Tt.neg (by rw [decide_eq_true rfl]; decide) ?_)
  have hsl : (srt (dd (ci (os n)))).length ≤ 16000000 := by
    have h1 := (srt_perm (dd (ci (os n)))).length_eq
    have h2 := hN.dl
    rw [h1]
    exact Nat.le_trans (Nat.le_of_lt h2) (by decide)
  refine tt_grd.mpr ⟨⟨by rw [ci_len]; omega, hN.dl⟩, tt_grd.mpr ⟨hsl, tt_bnd.mpr ?_⟩⟩
  have okd := ok_due hN.du
  obtain ⟨gm, hgm⟩ : ∃ y, (ci (os n)).max? = some y := by
    cases e : (ci (os n)).max? with
    | none => rw [List.max?_eq_none_iff] at e; have := congrArg List.length e; rw [ci_len, hol, List.length_nil] at this; omega
    | some y => exact ⟨y, rfl⟩
  refine (tt_lft hN.oc).mpr ((tt_lft hN.oc).mpr (tt_grd.mpr ⟨by simp, tt_bnd.mpr (tt_grd.mpr ⟨okd, tt_grd.mpr ⟨by simp, tt_bnd.mpr (tt_grd.mpr ⟨okd, tt_grP.mpr ⟨rfl, ?_⟩⟩)⟩⟩)⟩))
  refine Tt.then (P' := fun b s' => b = false ∧ s' = s3) (Tt.neg (by decide) ((tt_lft (hN.go.trans hgm)).mpr ((tt_lft hgm).mpr (tt_pure.mpr ⟨by rw [decide_eq_true rfl]; rfl, rfl⟩)))) ?_
  rintro b s' ⟨rfl, rfl⟩
  refine Tt.neg (by decide) ?_
  refine (of_ok (b := 900) (hp3.le (by decide)) (by omega) (Int.lt_of_le_of_lt (b := 200) (by omega) (by decide +kernel))).then fun at' s4 ⟨ha1, ha2, hp4⟩ => tt_bnd.mpr ?_
  obtain ⟨i, rfl⟩ : ∃ y : Nat, at' = y := ⟨at'.toNat, by omega⟩
  have hi : i < (rs n).length := by omega
  refine (tt_lft (ci_get hi)).mpr ?_
  refine (of_ok (b := 899) hp4 (by decide) (by decide +kernel)).then fun j' s5 ⟨hj1, hj2, hp5⟩ => ?_
  obtain ⟨j, rfl⟩ : ∃ y : Nat, j' = y := ⟨j'.toNat, by omega⟩
  have hri : (rs n)[i] ∈ rs n := List.getElem_mem hi
  obtain ⟨q1, q2, q3⟩ := mem_rs.mp hri
  have hi2 : i < (os n).length := by omega
  have hoi : (os n)[i] = od n (rs n)[i] := by simp [os]
  have hpo : m_power_order (((rs n)[i] : Int) + (n : Int) * (j : Int)) n = some ((os n)[i] : Int) := by
    have := po_shift n1 n2 hN hri (show j < 9 by omega)
    rw [hoi, ← this]
    congr 1
  have hob : (os n)[i] ≤ 20000 := by
    by_cases z : n = 1
    · subst z
      have : ∀ x ∈ os 1, x ≤ 20000 := by decide
      exact this _ (List.getElem_mem hi2)
    · have hl := lf_of (n := n) (by omega) (by omega)
      obtain ⟨K', _, k2', k3', k4'⟩ := order_both (a := (rs n)[i]) (n := n) (by omega) (by omega) (by omega) hl.lo hl.lm q3 (hl.od _ q3)
      rw [hN.lo _ hri] at k2'
      have e1 := Option.some.inj k2'
      have e2 := Nat.le_of_dvd (greatest_order_ok (n := n) (by omega) (by omega) hl.lo).2 ((k4' _).mp (hl.od _ q3))
      have := hl.lm
      omega
  have oko : OkD (PyData.list (List.map PyData.int [((os n)[i] : Int), ((os n)[i] : Int)])) := ok_ints (by simp) (by simp; omega)
  refine tt_grd.mpr ⟨⟨sm_nat (by omega), sm_nat (by omega)⟩, tt_bnd.mpr ((tt_lft hpo).mpr ((tt_lft hpo).mpr (tt_grd.mpr ⟨by simp, tt_bnd.mpr (tt_grd.mpr ⟨oko, (tt_lft (ci_get hi2)).mpr (tt_grd.mpr ⟨by simp, tt_grd.mpr ⟨⟨by decide, by decide, by simp⟩, tt_bnd.mpr (tt_grd.mpr ⟨oko, tt_grP.mpr ⟨rfl, Tt.neg (by decide) ?_⟩⟩)⟩⟩)⟩)⟩)))⟩
  refine tt_grd.mpr ⟨by rw [List.length_zip, ci_len, ci_len]; omega, ?_⟩
  rw [zip_ci (m := (rs n).length)]
  show Tt s5 (bnd (ci (rts n)) fun roots183 => _) _
  refine tt_bnd.mpr ((tt_lft hN.hr).mpr ((tt_lft hN.rk).mpr ((tt_lft hN.hr).mpr ((tt_lft hN.rk).mpr (tt_bnd.mpr ?_)))))
  have hrt : (rts n).length ≤ 200 := by
    unfold rts
    rw [List.length_map]
    refine Nat.le_trans (List.length_filter_le ..) ?_
    rw [List.length_zip]; omega
  have hH : (!decide (ci (rts n) = ([] : List Int))) = hasR n := by
    unfold hasR
    cases rts n <;> rfl
  have okb : OkD (PyData.list [PyData.bool (hasR n), PyData.int ((rts n).length : Int), PyData.bool (hasR n), PyData.int ((rts n).length : Int)]) := by
    have q : Shp 0 50 (PyData.int ((rts n).length : Int)) := shp_int (by omega)
    exact (shp_list (n := 4) (by simp) (Shp.lc shp_bool (Shp.lc q (Shp.lc shp_bool q.l1)))).ok (by decide) (by decide)
  refine tt_bnd.mpr (tt_grd.mpr ⟨okb, tt_grd.mpr ⟨by decide, ?_⟩⟩)
  rw [hH, ci_len]
  refine tt_grd.mpr ⟨by simp, tt_grd.mpr ⟨⟨by decide, by decide, by simp⟩, tt_bnd.mpr (tt_grd.mpr ⟨okb, tt_grP.mpr ⟨rfl, Tt.neg (by decide) ?_⟩⟩)⟩⟩
  obtain ⟨p, hp1, hp2, hpe⟩ := hN.rp
  refine (tt_lft hp1).mpr (tt_bnd.mpr (tt_grd.mpr ⟨by decide, ?_⟩))
  refine Tt.then (P' := fun b s' => b = false ∧ s' = s5) (Tt.neg (by rw [hp2, decide_eq_true rfl]; decide) ((tt_lft hpe).mpr (tt_pure.mpr ⟨rfl, rfl⟩))) ?_
  rintro b s' ⟨rfl, rfl⟩
  refine Tt.neg (by decide) (tt_grd.mpr ⟨by decide, ?_⟩)
  have hfin : ∀ {s : PotT}, Pot s 800 → Tt s (m__law_are_figures_right >>= fun r => bnd r fun r => pure r) fun a _ => a = true := fun q => (figures_right_ok (b := 10) (q.le (by decide))).then fun a s e => tt_bnd.mpr (tt_pure.mpr e)
  cases e : rts n with
  | nil =>
    refine Tt.neg (by unfold hasR; rw [e]; decide) ?_
    exact hfin (hp5.le (by decide))
  | cons r l =>
    refine Tt.pos (by unfold hasR; rw [e]; rfl) ?_
    obtain ⟨d1, c, d2, d3⟩ := hN.lr r l e
    rw [e] at d3
    refine (tt_lft d1).mpr ((tt_lft (show L2.atI (ci (r :: l)) 0 = some (r : Int) by rw [show (0 : Int) = ((0 : Nat) : Int) from rfl, ci_get (by simp)]; rfl)).mpr ?_)
    refine Tt.then (P' := fun b s6 => b = false ∧ s6 = s') (Tt.neg (by rw [decide_eq_true rfl]; decide) ((tt_lft d2).mpr ((tt_lft d3).mpr (tt_pure.mpr ⟨by rw [decide_eq_true rfl]; rfl, rfl⟩)))) ?_
    rintro b s6 ⟨rfl, rfl⟩
    refine Tt.neg (by decide) ?_
    refine (one_ok (b := 898) hp5 (by simp [ci]) (by have := congrArg List.length e; rw [ci_len]; omega)).then fun w' s7 ⟨hw', hp6⟩ => tt_bnd.mpr ?_
    obtain ⟨w, hw, rfl⟩ := List.mem_map.mp hw'
    refine (one_ok (b := 897) hp6 (fun q => by have := congrArg List.length q; rw [ci_len, List.length_nil] at this; omega) (by rw [ci_len]; omega)).then fun b' s8 ⟨hb', hp7⟩ => tt_bnd.mpr ?_
    obtain ⟨b, hb, rfl⟩ := List.mem_map.mp hb'
    rw [← e] at hw
    obtain ⟨k, hk1, hk2⟩ := hN.ri w hw b hb
    obtain ⟨T, hT1, hT2, hT3⟩ := least (P := fun k => w ^ k % n = b % n) hk2
    have hwn : w ≤ 1000 := by
      have : w ∈ rs n := by
        unfold rts at hw
        obtain ⟨x, hx, rfl⟩ := List.mem_map.mp hw
        exact (List.of_mem_zip (List.mem_filter.mp hx).1).1
      have := mem_rs.mp this
      omega
    refine tt_grd.mpr ⟨by omega, tt_bnd.mpr (tt_bnd.mpr (tt_bind.mpr (index_loop n1 (by omega) hwn hT2 hT3 (by omega) fun x => ?_)))⟩
    have hix := index_ok n1 (by omega) hwn hT2 hT3 (by omega)
    have oki : OkD (PyData.list (List.map PyData.int [(T : Int), (T : Int)])) := ok_ints (by simp) (by simp; omega)
    refine (tt_lft hix).mpr ((tt_lft hix).mpr (tt_grd.mpr ⟨by simp, tt_bnd.mpr (tt_grd.mpr ⟨oki, tt_grd.mpr ⟨by simp, tt_bnd.mpr (tt_grd.mpr ⟨oki, tt_grP.mpr ⟨rfl, Tt.neg (by decide) ?_⟩⟩)⟩⟩)⟩))
    exact hfin (hp7.le (by decide))
theorem main_law : ∀ ns : List Int, ns.length ≤ 63 → (∀ i ∈ ns, Builtin.Int.intBits i ≤ 1048576) → okLaw ns := by
  intro ns hl hb
  obtain ⟨s, e, h⟩ := pot_ok hb hl
  obtain ⟨a, s1, e1, rfl⟩ := law_ok (h.le (by decide))
  exact ⟨s, s1, e, e1⟩
end Wk
set_option Elab.async false
set_option maxRecDepth 100000
set_option maxHeartbeats 4000000
set_option linter.all false
namespace Wk
open PySem L2
open PyProof.Rows hiding St
theorem all_mk {l : PySem.W.OpenLaw} {w : World} {K : PySem.W.Frag} {h : Heap} {mg : Str → Option Value} {fa : Addr} (X : K.In h) (G : h.Ns mainGlobals mg) (hfa : mg "law" = some (.ref fa))
    {f0 : Addr} {od0 an0 : Option Addr} {sl0 : Array (Option Value)} {oc0 kV0 dc0 pm0 cd0 ct0 : Value}
    (a0 : PySem.W.nsIn K mainGlobals "taken_out" = some (some (.ref f0))) (l0 : K.lookup f0 = some ⟨oc0, od0, .func (PySem.W.fnOf "taken_out" "taken_out" (defArgs t_taken_out) (defBody t_taken_out) (defScope t_taken_out) .none kV0 dc0 pm0 an0 cd0 ct0), sl0⟩) (c0 : PySem.W.codeIn K cd0 "taken_out" = true) (k0 : PySem.W.keepIn K (.ref f0) = true)
    {f1 : Addr} {od1 an1 : Option Addr} {sl1 : Array (Option Value)} {oc1 kV1 dc1 pm1 cd1 ct1 : Value}
    (a1 : PySem.W.nsIn K mainGlobals "power_left" = some (some (.ref f1))) (l1 : K.lookup f1 = some ⟨oc1, od1, .func (PySem.W.fnOf "power_left" "power_left" (defArgs t_power_left) (defBody t_power_left) (defScope t_power_left) .none kV1 dc1 pm1 an1 cd1 ct1), sl1⟩) (c1 : PySem.W.codeIn K cd1 "power_left" = true) (k1 : PySem.W.keepIn K (.ref f1) = true)
    {f2 : Addr} {od2 an2 : Option Addr} {sl2 : Array (Option Value)} {oc2 kV2 dc2 pm2 cd2 ct2 : Value}
    (a2 : PySem.W.nsIn K mainGlobals "does_pass" = some (some (.ref f2))) (l2 : K.lookup f2 = some ⟨oc2, od2, .func (PySem.W.fnOf "does_pass" "does_pass" (defArgs t_does_pass) (defBody t_does_pass) (defScope t_does_pass) .none kV2 dc2 pm2 an2 cd2 ct2), sl2⟩) (c2 : PySem.W.codeIn K cd2 "does_pass" = true) (k2 : PySem.W.keepIn K (.ref f2) = true)
    {f3 : Addr} {od3 an3 : Option Addr} {sl3 : Array (Option Value)} {oc3 kV3 dc3 pm3 cd3 ct3 : Value}
    (a3 : PySem.W.nsIn K mainGlobals "is_prime_number" = some (some (.ref f3))) (l3 : K.lookup f3 = some ⟨oc3, od3, .func (PySem.W.fnOf "is_prime_number" "is_prime_number" (defArgs t_is_prime_number) (defBody t_is_prime_number) (defScope t_is_prime_number) .none kV3 dc3 pm3 an3 cd3 ct3), sl3⟩) (c3 : PySem.W.codeIn K cd3 "is_prime_number" = true) (k3 : PySem.W.keepIn K (.ref f3) = true)
    {f4 : Addr} {od4 an4 : Option Addr} {sl4 : Array (Option Value)} {oc4 kV4 dc4 pm4 cd4 ct4 : Value}
    (a4 : PySem.W.nsIn K mainGlobals "primes_of" = some (some (.ref f4))) (l4 : K.lookup f4 = some ⟨oc4, od4, .func (PySem.W.fnOf "primes_of" "primes_of" (defArgs t_primes_of) (defBody t_primes_of) (defScope t_primes_of) .none kV4 dc4 pm4 an4 cd4 ct4), sl4⟩) (c4 : PySem.W.codeIn K cd4 "primes_of" = true) (k4 : PySem.W.keepIn K (.ref f4) = true)
    {f5 : Addr} {od5 an5 : Option Addr} {sl5 : Array (Option Value)} {oc5 kV5 dc5 pm5 cd5 ct5 : Value}
    (a5 : PySem.W.nsIn K mainGlobals "common_divisor" = some (some (.ref f5))) (l5 : K.lookup f5 = some ⟨oc5, od5, .func (PySem.W.fnOf "common_divisor" "common_divisor" (defArgs t_common_divisor) (defBody t_common_divisor) (defScope t_common_divisor) .none kV5 dc5 pm5 an5 cd5 ct5), sl5⟩) (c5 : PySem.W.codeIn K cd5 "common_divisor" = true) (k5 : PySem.W.keepIn K (.ref f5) = true)
    {f6 : Addr} {od6 an6 : Option Addr} {sl6 : Array (Option Value)} {oc6 kV6 dc6 pm6 cd6 ct6 : Value}
    (a6 : PySem.W.nsIn K mainGlobals "power_rest" = some (some (.ref f6))) (l6 : K.lookup f6 = some ⟨oc6, od6, .func (PySem.W.fnOf "power_rest" "power_rest" (defArgs t_power_rest) (defBody t_power_rest) (defScope t_power_rest) .none kV6 dc6 pm6 an6 cd6 ct6), sl6⟩) (c6 : PySem.W.codeIn K cd6 "power_rest" = true) (k6 : PySem.W.keepIn K (.ref f6) = true)
    {f7 : Addr} {od7 an7 : Option Addr} {sl7 : Array (Option Value)} {oc7 kV7 dc7 pm7 cd7 ct7 : Value}
    (a7 : PySem.W.nsIn K mainGlobals "power_of" = some (some (.ref f7))) (l7 : K.lookup f7 = some ⟨oc7, od7, .func (PySem.W.fnOf "power_of" "power_of" (defArgs t_power_of) (defBody t_power_of) (defScope t_power_of) .none kV7 dc7 pm7 an7 cd7 ct7), sl7⟩) (c7 : PySem.W.codeIn K cd7 "power_of" = true) (k7 : PySem.W.keepIn K (.ref f7) = true)
    {f8 : Addr} {od8 an8 : Option Addr} {sl8 : Array (Option Value)} {oc8 kV8 dc8 pm8 cd8 ct8 : Value}
    (a8 : PySem.W.nsIn K mainGlobals "round_lengths" = some (some (.ref f8))) (l8 : K.lookup f8 = some ⟨oc8, od8, .func (PySem.W.fnOf "round_lengths" "round_lengths" (defArgs t_round_lengths) (defBody t_round_lengths) (defScope t_round_lengths) .none kV8 dc8 pm8 an8 cd8 ct8), sl8⟩) (c8 : PySem.W.codeIn K cd8 "round_lengths" = true) (k8 : PySem.W.keepIn K (.ref f8) = true)
    {f9 : Addr} {od9 an9 : Option Addr} {sl9 : Array (Option Value)} {oc9 kV9 dc9 pm9 cd9 ct9 : Value}
    (a9 : PySem.W.nsIn K mainGlobals "greatest_order" = some (some (.ref f9))) (l9 : K.lookup f9 = some ⟨oc9, od9, .func (PySem.W.fnOf "greatest_order" "greatest_order" (defArgs t_greatest_order) (defBody t_greatest_order) (defScope t_greatest_order) .none kV9 dc9 pm9 an9 cd9 ct9), sl9⟩) (c9 : PySem.W.codeIn K cd9 "greatest_order" = true) (k9 : PySem.W.keepIn K (.ref f9) = true)
    {f10 : Addr} {od10 an10 : Option Addr} {sl10 : Array (Option Value)} {oc10 kV10 dc10 pm10 cd10 ct10 : Value}
    (a10 : PySem.W.nsIn K mainGlobals "rests_number" = some (some (.ref f10))) (l10 : K.lookup f10 = some ⟨oc10, od10, .func (PySem.W.fnOf "rests_number" "rests_number" (defArgs t_rests_number) (defBody t_rests_number) (defScope t_rests_number) .none kV10 dc10 pm10 an10 cd10 ct10), sl10⟩) (c10 : PySem.W.codeIn K cd10 "rests_number" = true) (k10 : PySem.W.keepIn K (.ref f10) = true)
    {f11 : Addr} {od11 an11 : Option Addr} {sl11 : Array (Option Value)} {oc11 kV11 dc11 pm11 cd11 ct11 : Value}
    (a11 : PySem.W.nsIn K mainGlobals "power_order" = some (some (.ref f11))) (l11 : K.lookup f11 = some ⟨oc11, od11, .func (PySem.W.fnOf "power_order" "power_order" (defArgs t_power_order) (defBody t_power_order) (defScope t_power_order) .none kV11 dc11 pm11 an11 cd11 ct11), sl11⟩) (c11 : PySem.W.codeIn K cd11 "power_order" = true) (k11 : PySem.W.keepIn K (.ref f11) = true)
    {f12 : Addr} {od12 an12 : Option Addr} {sl12 : Array (Option Value)} {oc12 kV12 dc12 pm12 cd12 ct12 : Value}
    (a12 : PySem.W.nsIn K mainGlobals "divisors_made" = some (some (.ref f12))) (l12 : K.lookup f12 = some ⟨oc12, od12, .func (PySem.W.fnOf "divisors_made" "divisors_made" (defArgs t_divisors_made) (defBody t_divisors_made) (defScope t_divisors_made) .none kV12 dc12 pm12 an12 cd12 ct12), sl12⟩) (c12 : PySem.W.codeIn K cd12 "divisors_made" = true) (k12 : PySem.W.keepIn K (.ref f12) = true)
    {f13 : Addr} {od13 an13 : Option Addr} {sl13 : Array (Option Value)} {oc13 kV13 dc13 pm13 cd13 ct13 : Value}
    (a13 : PySem.W.nsIn K mainGlobals "order_counts" = some (some (.ref f13))) (l13 : K.lookup f13 = some ⟨oc13, od13, .func (PySem.W.fnOf "order_counts" "order_counts" (defArgs t_order_counts) (defBody t_order_counts) (defScope t_order_counts) .none kV13 dc13 pm13 an13 cd13 ct13), sl13⟩) (c13 : PySem.W.codeIn K cd13 "order_counts" = true) (k13 : PySem.W.keepIn K (.ref f13) = true)
    {f14 : Addr} {od14 an14 : Option Addr} {sl14 : Array (Option Value)} {oc14 kV14 dc14 pm14 cd14 ct14 : Value}
    (a14 : PySem.W.nsIn K mainGlobals "figure_round" = some (some (.ref f14))) (l14 : K.lookup f14 = some ⟨oc14, od14, .func (PySem.W.fnOf "figure_round" "figure_round" (defArgs t_figure_round) (defBody t_figure_round) (defScope t_figure_round) .none kV14 dc14 pm14 an14 cd14 ct14), sl14⟩) (c14 : PySem.W.codeIn K cd14 "figure_round" = true) (k14 : PySem.W.keepIn K (.ref f14) = true)
    {f15 : Addr} {od15 an15 : Option Addr} {sl15 : Array (Option Value)} {oc15 kV15 dc15 pm15 cd15 ct15 : Value}
    (a15 : PySem.W.nsIn K mainGlobals "figures_of" = some (some (.ref f15))) (l15 : K.lookup f15 = some ⟨oc15, od15, .func (PySem.W.fnOf "figures_of" "figures_of" (defArgs t_figures_of) (defBody t_figures_of) (defScope t_figures_of) .none kV15 dc15 pm15 an15 cd15 ct15), sl15⟩) (c15 : PySem.W.codeIn K cd15 "figures_of" = true) (k15 : PySem.W.keepIn K (.ref f15) = true)
    {f16 : Addr} {od16 an16 : Option Addr} {sl16 : Array (Option Value)} {oc16 kV16 dc16 pm16 cd16 ct16 : Value}
    (a16 : PySem.W.nsIn K mainGlobals "round_figures_of" = some (some (.ref f16))) (l16 : K.lookup f16 = some ⟨oc16, od16, .func (PySem.W.fnOf "round_figures_of" "round_figures_of" (defArgs t_round_figures_of) (defBody t_round_figures_of) (defScope t_round_figures_of) .none kV16 dc16 pm16 an16 cd16 ct16), sl16⟩) (c16 : PySem.W.codeIn K cd16 "round_figures_of" = true) (k16 : PySem.W.keepIn K (.ref f16) = true)
    {f17 : Addr} {od17 an17 : Option Addr} {sl17 : Array (Option Value)} {oc17 kV17 dc17 pm17 cd17 ct17 : Value}
    (a17 : PySem.W.nsIn K mainGlobals "number_of" = some (some (.ref f17))) (l17 : K.lookup f17 = some ⟨oc17, od17, .func (PySem.W.fnOf "number_of" "number_of" (defArgs t_number_of) (defBody t_number_of) (defScope t_number_of) .none kV17 dc17 pm17 an17 cd17 ct17), sl17⟩) (c17 : PySem.W.codeIn K cd17 "number_of" = true) (k17 : PySem.W.keepIn K (.ref f17) = true)
    {f18 : Addr} {od18 an18 : Option Addr} {sl18 : Array (Option Value)} {oc18 kV18 dc18 pm18 cd18 ct18 : Value}
    (a18 : PySem.W.nsIn K mainGlobals "fraction_by" = some (some (.ref f18))) (l18 : K.lookup f18 = some ⟨oc18, od18, .func (PySem.W.fnOf "fraction_by" "fraction_by" (defArgs t_fraction_by) (defBody t_fraction_by) (defScope t_fraction_by) .none kV18 dc18 pm18 an18 cd18 ct18), sl18⟩) (c18 : PySem.W.codeIn K cd18 "fraction_by" = true) (k18 : PySem.W.keepIn K (.ref f18) = true)
    {f19 : Addr} {od19 an19 : Option Addr} {sl19 : Array (Option Value)} {oc19 kV19 dc19 pm19 cd19 ct19 : Value}
    (a19 : PySem.W.nsIn K mainGlobals "gcd_of" = some (some (.ref f19))) (l19 : K.lookup f19 = some ⟨oc19, od19, .func (PySem.W.fnOf "gcd_of" "gcd_of" (defArgs t_gcd_of) (defBody t_gcd_of) (defScope t_gcd_of) .none kV19 dc19 pm19 an19 cd19 ct19), sl19⟩) (c19 : PySem.W.codeIn K cd19 "gcd_of" = true) (k19 : PySem.W.keepIn K (.ref f19) = true)
    {f20 : Addr} {od20 an20 : Option Addr} {sl20 : Array (Option Value)} {oc20 kV20 dc20 pm20 cd20 ct20 : Value}
    (a20 : PySem.W.nsIn K mainGlobals "coprime_count" = some (some (.ref f20))) (l20 : K.lookup f20 = some ⟨oc20, od20, .func (PySem.W.fnOf "coprime_count" "coprime_count" (defArgs t_coprime_count) (defBody t_coprime_count) (defScope t_coprime_count) .none kV20 dc20 pm20 an20 cd20 ct20), sl20⟩) (c20 : PySem.W.codeIn K cd20 "coprime_count" = true) (k20 : PySem.W.keepIn K (.ref f20) = true)
    {f21 : Addr} {od21 an21 : Option Addr} {sl21 : Array (Option Value)} {oc21 kV21 dc21 pm21 cd21 ct21 : Value}
    (a21 : PySem.W.nsIn K mainGlobals "coprimes_of" = some (some (.ref f21))) (l21 : K.lookup f21 = some ⟨oc21, od21, .func (PySem.W.fnOf "coprimes_of" "coprimes_of" (defArgs t_coprimes_of) (defBody t_coprimes_of) (defScope t_coprimes_of) .none kV21 dc21 pm21 an21 cd21 ct21), sl21⟩) (c21 : PySem.W.codeIn K cd21 "coprimes_of" = true) (k21 : PySem.W.keepIn K (.ref f21) = true)
    {f22 : Addr} {od22 an22 : Option Addr} {sl22 : Array (Option Value)} {oc22 kV22 dc22 pm22 cd22 ct22 : Value}
    (a22 : PySem.W.nsIn K mainGlobals "is_integer" = some (some (.ref f22))) (l22 : K.lookup f22 = some ⟨oc22, od22, .func (PySem.W.fnOf "is_integer" "is_integer" (defArgs t_is_integer) (defBody t_is_integer) (defScope t_is_integer) .none kV22 dc22 pm22 an22 cd22 ct22), sl22⟩) (c22 : PySem.W.codeIn K cd22 "is_integer" = true) (k22 : PySem.W.keepIn K (.ref f22) = true)
    {f23 : Addr} {od23 an23 : Option Addr} {sl23 : Array (Option Value)} {oc23 kV23 dc23 pm23 cd23 ct23 : Value}
    (a23 : PySem.W.nsIn K mainGlobals "has_root" = some (some (.ref f23))) (l23 : K.lookup f23 = some ⟨oc23, od23, .func (PySem.W.fnOf "has_root" "has_root" (defArgs t_has_root) (defBody t_has_root) (defScope t_has_root) .none kV23 dc23 pm23 an23 cd23 ct23), sl23⟩) (c23 : PySem.W.codeIn K cd23 "has_root" = true) (k23 : PySem.W.keepIn K (.ref f23) = true)
    {f24 : Addr} {od24 an24 : Option Addr} {sl24 : Array (Option Value)} {oc24 kV24 dc24 pm24 cd24 ct24 : Value}
    (a24 : PySem.W.nsIn K mainGlobals "is_root" = some (some (.ref f24))) (l24 : K.lookup f24 = some ⟨oc24, od24, .func (PySem.W.fnOf "is_root" "is_root" (defArgs t_is_root) (defBody t_is_root) (defScope t_is_root) .none kV24 dc24 pm24 an24 cd24 ct24), sl24⟩) (c24 : PySem.W.codeIn K cd24 "is_root" = true) (k24 : PySem.W.keepIn K (.ref f24) = true)
    {f25 : Addr} {od25 an25 : Option Addr} {sl25 : Array (Option Value)} {oc25 kV25 dc25 pm25 cd25 ct25 : Value}
    (a25 : PySem.W.nsIn K mainGlobals "least_root" = some (some (.ref f25))) (l25 : K.lookup f25 = some ⟨oc25, od25, .func (PySem.W.fnOf "least_root" "least_root" (defArgs t_least_root) (defBody t_least_root) (defScope t_least_root) .none kV25 dc25 pm25 an25 cd25 ct25), sl25⟩) (c25 : PySem.W.codeIn K cd25 "least_root" = true) (k25 : PySem.W.keepIn K (.ref f25) = true)
    {f26 : Addr} {od26 an26 : Option Addr} {sl26 : Array (Option Value)} {oc26 kV26 dc26 pm26 cd26 ct26 : Value}
    (a26 : PySem.W.nsIn K mainGlobals "roots_number" = some (some (.ref f26))) (l26 : K.lookup f26 = some ⟨oc26, od26, .func (PySem.W.fnOf "roots_number" "roots_number" (defArgs t_roots_number) (defBody t_roots_number) (defScope t_roots_number) .none kV26 dc26 pm26 an26 cd26 ct26), sl26⟩) (c26 : PySem.W.codeIn K cd26 "roots_number" = true) (k26 : PySem.W.keepIn K (.ref f26) = true)
    {f27 : Addr} {od27 an27 : Option Addr} {sl27 : Array (Option Value)} {oc27 kV27 dc27 pm27 cd27 ct27 : Value}
    (a27 : PySem.W.nsIn K mainGlobals "root_paper" = some (some (.ref f27))) (l27 : K.lookup f27 = some ⟨oc27, od27, .func (PySem.W.fnOf "root_paper" "root_paper" (defArgs t_root_paper) (defBody t_root_paper) (defScope t_root_paper) .none kV27 dc27 pm27 an27 cd27 ct27), sl27⟩) (c27 : PySem.W.codeIn K cd27 "root_paper" = true) (k27 : PySem.W.keepIn K (.ref f27) = true)
    {f28 : Addr} {od28 an28 : Option Addr} {sl28 : Array (Option Value)} {oc28 kV28 dc28 pm28 cd28 ct28 : Value}
    (a28 : PySem.W.nsIn K mainGlobals "low_fault" = some (some (.ref f28))) (l28 : K.lookup f28 = some ⟨oc28, od28, .func (PySem.W.fnOf "low_fault" "low_fault" (defArgs t_low_fault) (defBody t_low_fault) (defScope t_low_fault) .none kV28 dc28 pm28 an28 cd28 ct28), sl28⟩) (c28 : PySem.W.codeIn K cd28 "low_fault" = true) (k28 : PySem.W.keepIn K (.ref f28) = true)
    {f29 : Addr} {od29 an29 : Option Addr} {sl29 : Array (Option Value)} {oc29 kV29 dc29 pm29 cd29 ct29 : Value}
    (a29 : PySem.W.nsIn K mainGlobals "root_paper_error" = some (some (.ref f29))) (l29 : K.lookup f29 = some ⟨oc29, od29, .func (PySem.W.fnOf "root_paper_error" "root_paper_error" (defArgs t_root_paper_error) (defBody t_root_paper_error) (defScope t_root_paper_error) .none kV29 dc29 pm29 an29 cd29 ct29), sl29⟩) (c29 : PySem.W.codeIn K cd29 "root_paper_error" = true) (k29 : PySem.W.keepIn K (.ref f29) = true)
    {f30 : Addr} {od30 an30 : Option Addr} {sl30 : Array (Option Value)} {oc30 kV30 dc30 pm30 cd30 ct30 : Value}
    (a30 : PySem.W.nsIn K mainGlobals "root_index" = some (some (.ref f30))) (l30 : K.lookup f30 = some ⟨oc30, od30, .func (PySem.W.fnOf "root_index" "root_index" (defArgs t_root_index) (defBody t_root_index) (defScope t_root_index) .none kV30 dc30 pm30 an30 cd30 ct30), sl30⟩) (c30 : PySem.W.codeIn K cd30 "root_index" = true) (k30 : PySem.W.keepIn K (.ref f30) = true)
    {f31 : Addr} {od31 an31 : Option Addr} {sl31 : Array (Option Value)} {oc31 kV31 dc31 pm31 cd31 ct31 : Value}
    (a31 : PySem.W.nsIn K mainGlobals "_law_of" = some (some (.ref f31))) (l31 : K.lookup f31 = some ⟨oc31, od31, .func (PySem.W.fnOf "_law_of" "_law_of" (defArgs t__law_of) (defBody t__law_of) (defScope t__law_of) .none kV31 dc31 pm31 an31 cd31 ct31), sl31⟩) (c31 : PySem.W.codeIn K cd31 "_law_of" = true) (k31 : PySem.W.keepIn K (.ref f31) = true)
    {f32 : Addr} {od32 an32 : Option Addr} {sl32 : Array (Option Value)} {oc32 kV32 dc32 pm32 cd32 ct32 : Value}
    (a32 : PySem.W.nsIn K mainGlobals "_law_one" = some (some (.ref f32))) (l32 : K.lookup f32 = some ⟨oc32, od32, .func (PySem.W.fnOf "_law_one" "_law_one" (defArgs t__law_one) (defBody t__law_one) (defScope t__law_one) .none kV32 dc32 pm32 an32 cd32 ct32), sl32⟩) (c32 : PySem.W.codeIn K cd32 "_law_one" = true) (k32 : PySem.W.keepIn K (.ref f32) = true)
    {f33 : Addr} {od33 an33 : Option Addr} {sl33 : Array (Option Value)} {oc33 kV33 dc33 pm33 cd33 ct33 : Value}
    (a33 : PySem.W.nsIn K mainGlobals "_law_common" = some (some (.ref f33))) (l33 : K.lookup f33 = some ⟨oc33, od33, .func (PySem.W.fnOf "_law_common" "_law_common" (defArgs t__law_common) (defBody t__law_common) (defScope t__law_common) .none kV33 dc33 pm33 an33 cd33 ct33), sl33⟩) (c33 : PySem.W.codeIn K cd33 "_law_common" = true) (k33 : PySem.W.keepIn K (.ref f33) = true)
    {f34 : Addr} {od34 an34 : Option Addr} {sl34 : Array (Option Value)} {oc34 kV34 dc34 pm34 cd34 ct34 : Value}
    (a34 : PySem.W.nsIn K mainGlobals "_law_made" = some (some (.ref f34))) (l34 : K.lookup f34 = some ⟨oc34, od34, .func (PySem.W.fnOf "_law_made" "_law_made" (defArgs t__law_made) (defBody t__law_made) (defScope t__law_made) .none kV34 dc34 pm34 an34 cd34 ct34), sl34⟩) (c34 : PySem.W.codeIn K cd34 "_law_made" = true) (k34 : PySem.W.keepIn K (.ref f34) = true)
    {f35 : Addr} {od35 an35 : Option Addr} {sl35 : Array (Option Value)} {oc35 kV35 dc35 pm35 cd35 ct35 : Value}
    (a35 : PySem.W.nsIn K mainGlobals "_law_order" = some (some (.ref f35))) (l35 : K.lookup f35 = some ⟨oc35, od35, .func (PySem.W.fnOf "_law_order" "_law_order" (defArgs t__law_order) (defBody t__law_order) (defScope t__law_order) .none kV35 dc35 pm35 an35 cd35 ct35), sl35⟩) (c35 : PySem.W.codeIn K cd35 "_law_order" = true) (k35 : PySem.W.keepIn K (.ref f35) = true)
    {f36 : Addr} {od36 an36 : Option Addr} {sl36 : Array (Option Value)} {oc36 kV36 dc36 pm36 cd36 ct36 : Value}
    (a36 : PySem.W.nsIn K mainGlobals "_law_are_figures_right" = some (some (.ref f36))) (l36 : K.lookup f36 = some ⟨oc36, od36, .func (PySem.W.fnOf "_law_are_figures_right" "_law_are_figures_right" (defArgs t__law_are_figures_right) (defBody t__law_are_figures_right) (defScope t__law_are_figures_right) .none kV36 dc36 pm36 an36 cd36 ct36), sl36⟩) (c36 : PySem.W.codeIn K cd36 "_law_are_figures_right" = true) (k36 : PySem.W.keepIn K (.ref f36) = true)
    {f37 : Addr} {od37 an37 : Option Addr} {sl37 : Array (Option Value)} {oc37 kV37 dc37 pm37 cd37 ct37 : Value}
    (a37 : PySem.W.nsIn K mainGlobals "_law_pot" = some (some (.ref f37))) (l37 : K.lookup f37 = some ⟨oc37, od37, .func (PySem.W.fnOf "_law_pot" "_law_pot" (defArgs t__law_pot) (defBody t__law_pot) (defScope t__law_pot) .none kV37 dc37 pm37 an37 cd37 ct37), sl37⟩) (c37 : PySem.W.codeIn K cd37 "_law_pot" = true) (k37 : PySem.W.keepIn K (.ref f37) = true)
    {f38 : Addr} {od38 an38 : Option Addr} {sl38 : Array (Option Value)} {oc38 kV38 dc38 pm38 cd38 ct38 : Value}
    (a38 : PySem.W.nsIn K mainGlobals "law" = some (some (.ref f38))) (l38 : K.lookup f38 = some ⟨oc38, od38, .func (PySem.W.fnOf "law" "law" (defArgs t_law) (defBody t_law) (defScope t_law) .none kV38 dc38 pm38 an38 cd38 ct38), sl38⟩) (c38 : PySem.W.codeIn K cd38 "law" = true) (k38 : PySem.W.keepIn K (.ref f38) = true)
    (z0 : PySem.W.nsIn K mainGlobals "abs" = some none) (z1 : PySem.W.nsIn K mainGlobals "all" = some none) (z2 : PySem.W.nsIn K mainGlobals "bool" = some none) (z3 : PySem.W.nsIn K mainGlobals "int" = some none) (z4 : PySem.W.nsIn K mainGlobals "isinstance" = some none) (z5 : PySem.W.nsIn K mainGlobals "len" = some none) (z6 : PySem.W.nsIn K mainGlobals "list" = some none) (z7 : PySem.W.nsIn K mainGlobals "max" = some none) (z8 : PySem.W.nsIn K mainGlobals "range" = some none) (z9 : PySem.W.nsIn K mainGlobals "repr" = some none) (z10 : PySem.W.nsIn K mainGlobals "set" = some none) (z11 : PySem.W.nsIn K mainGlobals "sorted" = some none) (z12 : PySem.W.nsIn K mainGlobals "str" = some none) (z13 : PySem.W.nsIn K mainGlobals "sum" = some none) (z14 : PySem.W.nsIn K mainGlobals "tuple" = some none) (z15 : PySem.W.nsIn K mainGlobals "zip" = some none) {tk0 : Tok} (y0 : PySem.W.nsIn K mainGlobals "MAX_LISTED" = some (some (.int 500 tk0))) :
    ∃ fd : FuncData, (∀ (s : Shared) (v : Value), BindsTo s fd ⟨[v], []⟩ [("script", v)]) ∧ ∀ base : Heap, K.In base → base.Ns mainGlobals mg → base.NoDigits → FnG l.prog w K mg base CX0 10 fa fd ["script"] (spLaw K okLaw) := by
  have e := hfa.symm.trans (PySem.W.mg_of X G a38)
  cases e
  have F0 := fun_mk (st := t_taken_out) l0 c0 k0
  have F1 := fun_mk (st := t_power_left) l1 c1 k1
  have F2 := fun_mk (st := t_does_pass) l2 c2 k2
  have F3 := fun_mk (st := t_is_prime_number) l3 c3 k3
  have F4 := fun_mk (st := t_primes_of) l4 c4 k4
  have F5 := fun_mk (st := t_common_divisor) l5 c5 k5
  have F6 := fun_mk (st := t_power_rest) l6 c6 k6
  have F7 := fun_mk (st := t_power_of) l7 c7 k7
  have F8 := fun_mk (st := t_round_lengths) l8 c8 k8
  have F9 := fun_mk (st := t_greatest_order) l9 c9 k9
  have F10 := fun_mk (st := t_rests_number) l10 c10 k10
  have F11 := fun_mk (st := t_power_order) l11 c11 k11
  have F12 := fun_mk (st := t_divisors_made) l12 c12 k12
  have F13 := fun_mk (st := t_order_counts) l13 c13 k13
  have F14 := fun_mk (st := t_figure_round) l14 c14 k14
  have F15 := fun_mk (st := t_figures_of) l15 c15 k15
  have F16 := fun_mk (st := t_round_figures_of) l16 c16 k16
  have F17 := fun_mk (st := t_number_of) l17 c17 k17
  have F18 := fun_mk (st := t_fraction_by) l18 c18 k18
  have F19 := fun_mk (st := t_gcd_of) l19 c19 k19
  have F20 := fun_mk (st := t_coprime_count) l20 c20 k20
  have F21 := fun_mk (st := t_coprimes_of) l21 c21 k21
  have F22 := fun_mk (st := t_is_integer) l22 c22 k22
  have F23 := fun_mk (st := t_has_root) l23 c23 k23
  have F24 := fun_mk (st := t_is_root) l24 c24 k24
  have F25 := fun_mk (st := t_least_root) l25 c25 k25
  have F26 := fun_mk (st := t_roots_number) l26 c26 k26
  have F27 := fun_mk (st := t_root_paper) l27 c27 k27
  have F28 := fun_mk (st := t_low_fault) l28 c28 k28
  have F29 := fun_mk (st := t_root_paper_error) l29 c29 k29
  have F30 := fun_mk (st := t_root_index) l30 c30 k30
  have F31 := fun_mk (st := t__law_of) l31 c31 k31
  have F32 := fun_mk (st := t__law_one) l32 c32 k32
  have F33 := fun_mk (st := t__law_common) l33 c33 k33
  have F34 := fun_mk (st := t__law_made) l34 c34 k34
  have F35 := fun_mk (st := t__law_order) l35 c35 k35
  have F36 := fun_mk (st := t__law_are_figures_right) l36 c36 k36
  have F37 := fun_mk (st := t__law_pot) l37 c37 k37
  have F38 := fun_mk (st := t_law) l38 c38 k38
  have b0 := F0.binds (ps := ["number", "p"]) fun _ _ _ _ _ _ us hl => match us, hl with | [_, _], _ => rfl
  have b1 := F1.binds (ps := ["base", "often", "number"]) fun _ _ _ _ _ _ us hl => match us, hl with | [_, _, _], _ => rfl
  have b2 := F2.binds (ps := ["number", "base", "often", "odd"]) fun _ _ _ _ _ _ us hl => match us, hl with | [_, _, _, _], _ => rfl
  have b3 := F3.binds (ps := ["number"]) fun _ _ _ _ _ _ us hl => match us, hl with | [_], _ => rfl
  have b4 := F4.binds (ps := ["number"]) fun _ _ _ _ _ _ us hl => match us, hl with | [_], _ => rfl
  have b5 := F5.binds (ps := ["one", "other"]) fun _ _ _ _ _ _ us hl => match us, hl with | [_, _], _ => rfl
  have b6 := F6.binds (ps := ["number", "e", "n"]) fun _ _ _ _ _ _ us hl => match us, hl with | [_, _, _], _ => rfl
  have b7 := F7.binds (ps := ["number", "k"]) fun _ _ _ _ _ _ us hl => match us, hl with | [_, _], _ => rfl
  have b8 := F8.binds (ps := ["n"]) fun _ _ _ _ _ _ us hl => match us, hl with | [_], _ => rfl
  have b9 := F9.binds (ps := ["n"]) fun _ _ _ _ _ _ us hl => match us, hl with | [_], _ => rfl
  have b10 := F10.binds (ps := ["n"]) fun _ _ _ _ _ _ us hl => match us, hl with | [_], _ => rfl
  have b11 := F11.binds (ps := ["a", "n"]) fun _ _ _ _ _ _ us hl => match us, hl with | [_, _], _ => rfl
  have b12 := F12.binds (ps := ["parting"]) fun _ _ _ _ _ _ us hl => match us, hl with | [_], _ => rfl
  have b13 := F13.binds (ps := ["n"]) fun _ _ _ _ _ _ us hl => match us, hl with | [_], _ => rfl
  have b14 := F14.binds (ps := ["n", "base"]) fun _ _ _ _ _ _ us hl => match us, hl with | [_, _], _ => rfl
  have b15 := F15.binds (ps := ["above", "n", "base", "many"]) fun _ _ _ _ _ _ us hl => match us, hl with | [_, _, _, _], _ => rfl
  have b16 := F16.binds (ps := ["above", "n", "base"]) fun _ _ _ _ _ _ us hl => match us, hl with | [_, _, _], _ => rfl
  have b17 := F17.binds (ps := ["figures", "base"]) fun _ _ _ _ _ _ us hl => match us, hl with | [_, _], _ => rfl
  have b18 := F18.binds (ps := ["ahead", "round_figures", "base"]) fun _ _ _ _ _ _ us hl => match us, hl with | [_, _, _], _ => rfl
  have b19 := F19.binds (ps := ["one", "other"]) fun _ _ _ _ _ _ us hl => match us, hl with | [_, _], _ => rfl
  have b20 := F20.binds (ps := ["number"]) fun _ _ _ _ _ _ us hl => match us, hl with | [_], _ => rfl
  have b21 := F21.binds (ps := ["number"]) fun _ _ _ _ _ _ us hl => match us, hl with | [_], _ => rfl
  have b22 := F22.binds (ps := ["value"]) fun _ _ _ _ _ _ us hl => match us, hl with | [_], _ => rfl
  have b23 := F23.binds (ps := ["n"]) fun _ _ _ _ _ _ us hl => match us, hl with | [_], _ => rfl
  have b24 := F24.binds (ps := ["n", "whole", "primes", "a"]) fun _ _ _ _ _ _ us hl => match us, hl with | [_, _, _, _], _ => rfl
  have b25 := F25.binds (ps := ["n"]) fun _ _ _ _ _ _ us hl => match us, hl with | [_], _ => rfl
  have b26 := F26.binds (ps := ["n"]) fun _ _ _ _ _ _ us hl => match us, hl with | [_], _ => rfl
  have b27 := F27.binds (ps := ["n"]) fun _ _ _ _ _ _ us hl => match us, hl with | [_], _ => rfl
  have b28 := F28.binds (ps := ["n", "k"]) fun _ _ _ _ _ _ us hl => match us, hl with | [_, _], _ => rfl
  have b29 := F29.binds (ps := ["n", "value"]) fun _ _ _ _ _ _ us hl => match us, hl with | [_, _], _ => rfl
  have b30 := F30.binds (ps := ["n", "root", "a"]) fun _ _ _ _ _ _ us hl => match us, hl with | [_, _, _], _ => rfl
  have b31 := F31.binds (ps := ["pot", "many"]) fun _ _ _ _ _ _ us hl => match us, hl with | [_, _], _ => rfl
  have b32 := F32.binds (ps := ["pot", "items"]) fun _ _ _ _ _ _ us hl => match us, hl with | [_, _], _ => rfl
  have b33 := F33.binds (ps := ["a", "b"]) fun _ _ _ _ _ _ us hl => match us, hl with | [_, _], _ => rfl
  have b34 := F34.binds (ps := ["above", "below"]) fun _ _ _ _ _ _ us hl => match us, hl with | [_, _], _ => rfl
  have b35 := F35.binds (ps := ["a", "n"]) fun _ _ _ _ _ _ us hl => match us, hl with | [_, _], _ => rfl
  have b36 := F36.binds (ps := ["pot"]) fun _ _ _ _ _ _ us hl => match us, hl with | [_], _ => rfl
  have b37 := F37.binds (ps := ["script"]) fun _ _ _ _ _ _ us hl => match us, hl with | [_], _ => rfl
  refine ⟨PySem.W.fnOf "law" "law" (defArgs t_law) (defBody t_law) (defScope t_law) .none kV38 dc38 pm38 an38 cd38 ct38, fun s v => .of_eq rfl, fun base _ _ nd => ?_⟩
  have T : Tx mg base := ⟨nd, PySem.W.mg_none_of X G z0, PySem.W.mg_none_of X G z1, PySem.W.mg_none_of X G z2, PySem.W.mg_none_of X G z3, PySem.W.mg_none_of X G z4, PySem.W.mg_none_of X G z5, PySem.W.mg_none_of X G z6, PySem.W.mg_none_of X G z7, PySem.W.mg_none_of X G z8, PySem.W.mg_none_of X G z9, PySem.W.mg_none_of X G z10, PySem.W.mg_none_of X G z11, PySem.W.mg_none_of X G z12, PySem.W.mg_none_of X G z13, PySem.W.mg_none_of X G z14, PySem.W.mg_none_of X G z15, ⟨_, PySem.W.mg_of X G y0⟩⟩
  have D0 : Dk l.prog w K mg base "taken_out" "taken_out" t_taken_out 1 ["number", "p"] (sp_taken_out K) := ⟨_, _, F0, PySem.W.mg_of X G a0, g_taken_out T  F0, b0⟩
  have D1 : Dk l.prog w K mg base "power_left" "power_left" t_power_left 1 ["base", "often", "number"] (sp_power_left K) := ⟨_, _, F1, PySem.W.mg_of X G a1, g_power_left T  F1, b1⟩
  have D2 : Dk l.prog w K mg base "does_pass" "does_pass" t_does_pass 2 ["number", "base", "often", "odd"] (sp_does_pass K) := ⟨_, _, F2, PySem.W.mg_of X G a2, g_does_pass T D1 F2, b2⟩
  have D3 : Dk l.prog w K mg base "is_prime_number" "is_prime_number" t_is_prime_number 3 ["number"] (sp_is_prime_number K) := ⟨_, _, F3, PySem.W.mg_of X G a3, g_is_prime_number T D0 D2 F3, b3⟩
  have D4 : Dk l.prog w K mg base "primes_of" "primes_of" t_primes_of 4 ["number"] (sp_primes_of K) := ⟨_, _, F4, PySem.W.mg_of X G a4, g_primes_of T D0 D3 F4, b4⟩
  have D5 : Dk l.prog w K mg base "common_divisor" "common_divisor" t_common_divisor 1 ["one", "other"] (sp_common_divisor K) := ⟨_, _, F5, PySem.W.mg_of X G a5, g_common_divisor T  F5, b5⟩
  have D6 : Dk l.prog w K mg base "power_rest" "power_rest" t_power_rest 1 ["number", "e", "n"] (sp_power_rest K) := ⟨_, _, F6, PySem.W.mg_of X G a6, g_power_rest T  F6, b6⟩
  have D7 : Dk l.prog w K mg base "power_of" "power_of" t_power_of 1 ["number", "k"] (sp_power_of K) := ⟨_, _, F7, PySem.W.mg_of X G a7, g_power_of T  F7, b7⟩
  have D8 : Dk l.prog w K mg base "round_lengths" "round_lengths" t_round_lengths 5 ["n"] (sp_round_lengths K) := ⟨_, _, F8, PySem.W.mg_of X G a8, g_round_lengths T D4 D7 F8, b8⟩
  have D9 : Dk l.prog w K mg base "greatest_order" "greatest_order" t_greatest_order 6 ["n"] (sp_greatest_order K) := ⟨_, _, F9, PySem.W.mg_of X G a9, g_greatest_order T D8 D5 F9, b9⟩
  have D10 : Dk l.prog w K mg base "rests_number" "rests_number" t_rests_number 6 ["n"] (sp_rests_number K) := ⟨_, _, F10, PySem.W.mg_of X G a10, g_rests_number T D8 F10, b10⟩
  have D11 : Dk l.prog w K mg base "power_order" "power_order" t_power_order 7 ["a", "n"] (sp_power_order K) := ⟨_, _, F11, PySem.W.mg_of X G a11, g_power_order T D5 D9 D4 D6 F11, b11⟩
  have D12 : Dk l.prog w K mg base "divisors_made" "divisors_made" t_divisors_made 2 ["parting"] (sp_divisors_made K) := ⟨_, _, F12, PySem.W.mg_of X G a12, g_divisors_made T D7 F12, b12⟩
  have D13 : Dk l.prog w K mg base "order_counts" "order_counts" t_order_counts 7 ["n"] (sp_order_counts K) := ⟨_, _, F13, PySem.W.mg_of X G a13, g_order_counts T D4 D9 D8 D12 D5 F13, b13⟩
  have D14 : Dk l.prog w K mg base "figure_round" "figure_round" t_figure_round 8 ["n", "base"] (sp_figure_round K) := ⟨_, _, F14, PySem.W.mg_of X G a14, g_figure_round T D5 D11 F14, b14⟩
  have D15 : Dk l.prog w K mg base "figures_of" "figures_of" t_figures_of 1 ["above", "n", "base", "many"] (sp_figures_of K) := ⟨_, _, F15, PySem.W.mg_of X G a15, g_figures_of T  F15, b15⟩
  have D16 : Dk l.prog w K mg base "round_figures_of" "round_figures_of" t_round_figures_of 1 ["above", "n", "base"] (sp_round_figures_of K) := ⟨_, _, F16, PySem.W.mg_of X G a16, g_round_figures_of T  F16, b16⟩
  have D17 : Dk l.prog w K mg base "number_of" "number_of" t_number_of 1 ["figures", "base"] (sp_number_of K) := ⟨_, _, F17, PySem.W.mg_of X G a17, g_number_of T  F17, b17⟩
  have D18 : Dk l.prog w K mg base "fraction_by" "fraction_by" t_fraction_by 2 ["ahead", "round_figures", "base"] (sp_fraction_by K) := ⟨_, _, F18, PySem.W.mg_of X G a18, g_fraction_by T D17 D5 F18, b18⟩
  have D19 : Dk l.prog w K mg base "gcd_of" "gcd_of" t_gcd_of 1 ["one", "other"] (sp_gcd_of K) := ⟨_, _, F19, PySem.W.mg_of X G a19, g_gcd_of T  F19, b19⟩
  have D20 : Dk l.prog w K mg base "coprime_count" "coprime_count" t_coprime_count 5 ["number"] (sp_coprime_count K) := ⟨_, _, F20, PySem.W.mg_of X G a20, g_coprime_count T D4 F20, b20⟩
  have D21 : Dk l.prog w K mg base "coprimes_of" "coprimes_of" t_coprimes_of 6 ["number"] (sp_coprimes_of K) := ⟨_, _, F21, PySem.W.mg_of X G a21, g_coprimes_of T D20 D19 F21, b21⟩
  have D22 : Dk l.prog w K mg base "is_integer" "is_integer" t_is_integer 1 ["value"] (sp_is_integer K) := ⟨_, _, F22, PySem.W.mg_of X G a22, g_is_integer T  F22, b22⟩
  have D23 : Dk l.prog w K mg base "has_root" "has_root" t_has_root 5 ["n"] (sp_has_root K) := ⟨_, _, F23, PySem.W.mg_of X G a23, g_has_root T D4 F23, b23⟩
  have D24 : Dk l.prog w K mg base "is_root" "is_root" t_is_root 2 ["n", "whole", "primes", "a"] (sp_is_root K) := ⟨_, _, F24, PySem.W.mg_of X G a24, g_is_root T D5 D6 F24, b24⟩
  have D25 : Dk l.prog w K mg base "least_root" "least_root" t_least_root 7 ["n"] (sp_least_root K) := ⟨_, _, F25, PySem.W.mg_of X G a25, g_least_root T D23 D10 D4 D24 F25, b25⟩
  have D26 : Dk l.prog w K mg base "roots_number" "roots_number" t_roots_number 7 ["n"] (sp_roots_number K) := ⟨_, _, F26, PySem.W.mg_of X G a26, g_roots_number T D23 D10 F26, b26⟩
  have D27 : Dk l.prog w K mg base "root_paper" "root_paper" t_root_paper 8 ["n"] (sp_root_paper K) := ⟨_, _, F27, PySem.W.mg_of X G a27, g_root_paper T D23 D25 D9 F27, b27⟩
  have D28 : Dk l.prog w K mg base "low_fault" "low_fault" t_low_fault 7 ["n", "k"] (sp_low_fault K) := ⟨_, _, F28, PySem.W.mg_of X G a28, g_low_fault T D10 D9 D5 D6 F28, b28⟩
  have D29 : Dk l.prog w K mg base "root_paper_error" "root_paper_error" t_root_paper_error 8 ["n", "value"] (sp_root_paper_error K) := ⟨_, _, F29, PySem.W.mg_of X G a29, g_root_paper_error T D22 D28 D5 D11 D10 F29, b29⟩
  have D30 : Dk l.prog w K mg base "root_index" "root_index" t_root_index 1 ["n", "root", "a"] (sp_root_index K) := ⟨_, _, F30, PySem.W.mg_of X G a30, g_root_index T  F30, b30⟩
  have D31 : Dk l.prog w K mg base "_law_of" "_law_of" t__law_of 1 ["pot", "many"] (sp__law_of K) := ⟨_, _, F31, PySem.W.mg_of X G a31, g__law_of T  F31, b31⟩
  have D32 : Dk l.prog w K mg base "_law_one" "_law_one" t__law_one 2 ["pot", "items"] (sp__law_one K) := ⟨_, _, F32, PySem.W.mg_of X G a32, g__law_one T D31 F32, b32⟩
  have D33 : Dk l.prog w K mg base "_law_common" "_law_common" t__law_common 1 ["a", "b"] (sp__law_common K) := ⟨_, _, F33, PySem.W.mg_of X G a33, g__law_common T  F33, b33⟩
  have D34 : Dk l.prog w K mg base "_law_made" "_law_made" t__law_made 2 ["above", "below"] (sp__law_made K) := ⟨_, _, F34, PySem.W.mg_of X G a34, g__law_made T D33 F34, b34⟩
  have D35 : Dk l.prog w K mg base "_law_order" "_law_order" t__law_order 1 ["a", "n"] (sp__law_order K) := ⟨_, _, F35, PySem.W.mg_of X G a35, g__law_order T  F35, b35⟩
  have D36 : Dk l.prog w K mg base "_law_are_figures_right" "_law_are_figures_right" t__law_are_figures_right 9 ["pot"] (sp__law_are_figures_right K) := ⟨_, _, F36, PySem.W.mg_of X G a36, g__law_are_figures_right T D31 D32 D33 D35 D14 D15 D16 D34 D18 F36, b36⟩
  have D37 : Dk l.prog w K mg base "_law_pot" "_law_pot" t__law_pot 1 ["script"] (sp__law_pot K) := ⟨_, _, F37, PySem.W.mg_of X G a37, g__law_pot T  F37, b37⟩
  exact g_law T D37 D31 D32 D33 D35 D10 D20 D21 D13 D9 D11 D23 D26 D27 D29 D25 D30 D36 F38
theorem walk_law {l : PySem.W.OpenLaw} {q : Program} {loose : List Str} {XP : (Str → Option Value) → Heap → Prop} {YP : World → Heap → Prop} {d : DefRec} {K : Params → PySem.W.Frag} (main : ∀ ns : List Int, ns.length ≤ 63 → (∀ i ∈ ns, Builtin.Int.intBits i ≤ 1048576) → okLaw ns) (hn : l.most = some 63) (hdf : d.params.defaults = [])
    (hY : ∀ (w : World) (h : Heap), YP w h → (K w.params).In h)
    (F : ∀ (w : World) (mg : Str → Option Value) (fa : Addr) (h : Heap), (K w.params).In h → h.Ns mainGlobals mg → mg d.name = some (.ref fa) →
      ∃ fd : FuncData, (∀ (s : Shared) (u : Value), BindsTo s fd ⟨[u], []⟩ [("script", u)]) ∧ ∀ base : Heap, (K w.params).In base → base.Ns mainGlobals mg → base.NoDigits → FnG l.prog w (K w.params) mg base CX0 10 fa fd ["script"] (spLaw (K w.params) okLaw)) :
    PySem.W.WalkO q loose XP YP l.row.toRowW d [] (fun f vs => PySem.call f vs) :=
  walk_G (n := 63) (k := 10) (x := "script") (CX := CX0) (sp := fun K => spLaw K okLaw) hn (by decide) hdf ⟨rfl, by decide, by decide⟩ hY F (fun K H a ns hl hb hS => ⟨ns, ⟨.ref a, rfl, a, rfl, hS⟩, main ns hl hb, fun _ => rfl⟩) fun _ _ _ _ z => z
end Wk
open PySem PySem.W PyProof.Rows in
set_option maxRecDepth 100000 in
set_option maxHeartbeats 0 in
theorem PySem.Challenge.cw_divisorways_k92_whole_roots_and_counts_holds : PySem.Challenge.rw_divisorways_k92_whole_roots_and_counts.Holds := by
  w_on; o_law; k_head; (case hw => w_witness2)
  k_fill
  refine Wk.walk_law (l := PySem.Challenge.rw_divisorways_k92_whole_roots_and_counts) Wk.main_law rfl rfl (fun w h Y => PySem.W.kIn_of Y) ?F
  case F =>
    intro w mg fa h KX G hmg
    refine' Wk.all_mk KX G hmg ?a0 ?l0 ?c0 ?k0 ?a1 ?l1 ?c1 ?k1 ?a2 ?l2 ?c2 ?k2 ?a3 ?l3 ?c3 ?k3 ?a4 ?l4 ?c4 ?k4 ?a5 ?l5 ?c5 ?k5 ?a6 ?l6 ?c6 ?k6 ?a7 ?l7 ?c7 ?k7 ?a8 ?l8 ?c8 ?k8 ?a9 ?l9 ?c9 ?k9 ?a10 ?l10 ?c10 ?k10 ?a11 ?l11 ?c11 ?k11 ?a12 ?l12 ?c12 ?k12 ?a13 ?l13 ?c13 ?k13 ?a14 ?l14 ?c14 ?k14 ?a15 ?l15 ?c15 ?k15 ?a16 ?l16 ?c16 ?k16 ?a17 ?l17 ?c17 ?k17 ?a18 ?l18 ?c18 ?k18 ?a19 ?l19 ?c19 ?k19 ?a20 ?l20 ?c20 ?k20 ?a21 ?l21 ?c21 ?k21 ?a22 ?l22 ?c22 ?k22 ?a23 ?l23 ?c23 ?k23 ?a24 ?l24 ?c24 ?k24 ?a25 ?l25 ?c25 ?k25 ?a26 ?l26 ?c26 ?k26 ?a27 ?l27 ?c27 ?k27 ?a28 ?l28 ?c28 ?k28 ?a29 ?l29 ?c29 ?k29 ?a30 ?l30 ?c30 ?k30 ?a31 ?l31 ?c31 ?k31 ?a32 ?l32 ?c32 ?k32 ?a33 ?l33 ?c33 ?k33 ?a34 ?l34 ?c34 ?k34 ?a35 ?l35 ?c35 ?k35 ?a36 ?l36 ?c36 ?k36 ?a37 ?l37 ?c37 ?k37 ?a38 ?l38 ?c38 ?k38 ?z0 ?z1 ?z2 ?z3 ?z4 ?z5 ?z6 ?z7 ?z8 ?z9 ?z10 ?z11 ?z12 ?z13 ?z14 ?z15 ?y0
    (case a0 => k_is)
    (case l0 => k_is)
    (case c0 => k_is)
    (case k0 => k_is)
    (case a1 => k_is)
    (case l1 => k_is)
    (case c1 => k_is)
    (case k1 => k_is)
    (case a2 => k_is)
    (case l2 => k_is)
    (case c2 => k_is)
    (case k2 => k_is)
    (case a3 => k_is)
    (case l3 => k_is)
    (case c3 => k_is)
    (case k3 => k_is)
    (case a4 => k_is)
    (case l4 => k_is)
    (case c4 => k_is)
    (case k4 => k_is)
    (case a5 => k_is)
    (case l5 => k_is)
    (case c5 => k_is)
    (case k5 => k_is)
    (case a6 => k_is)
    (case l6 => k_is)
    (case c6 => k_is)
    (case k6 => k_is)
    (case a7 => k_is)
    (case l7 => k_is)
    (case c7 => k_is)
    (case k7 => k_is)
    (case a8 => k_is)
    (case l8 => k_is)
    (case c8 => k_is)
    (case k8 => k_is)
    (case a9 => k_is)
    (case l9 => k_is)
    (case c9 => k_is)
    (case k9 => k_is)
    (case a10 => k_is)
    (case l10 => k_is)
    (case c10 => k_is)
    (case k10 => k_is)
    (case a11 => k_is)
    (case l11 => k_is)
    (case c11 => k_is)
    (case k11 => k_is)
    (case a12 => k_is)
    (case l12 => k_is)
    (case c12 => k_is)
    (case k12 => k_is)
    (case a13 => k_is)
    (case l13 => k_is)
    (case c13 => k_is)
    (case k13 => k_is)
    (case a14 => k_is)
    (case l14 => k_is)
    (case c14 => k_is)
    (case k14 => k_is)
    (case a15 => k_is)
    (case l15 => k_is)
    (case c15 => k_is)
    (case k15 => k_is)
    (case a16 => k_is)
    (case l16 => k_is)
    (case c16 => k_is)
    (case k16 => k_is)
    (case a17 => k_is)
    (case l17 => k_is)
    (case c17 => k_is)
    (case k17 => k_is)
    (case a18 => k_is)
    (case l18 => k_is)
    (case c18 => k_is)
    (case k18 => k_is)
    (case a19 => k_is)
    (case l19 => k_is)
    (case c19 => k_is)
    (case k19 => k_is)
    (case a20 => k_is)
    (case l20 => k_is)
    (case c20 => k_is)
    (case k20 => k_is)
    (case a21 => k_is)
    (case l21 => k_is)
    (case c21 => k_is)
    (case k21 => k_is)
    (case a22 => k_is)
    (case l22 => k_is)
    (case c22 => k_is)
    (case k22 => k_is)
    (case a23 => k_is)
    (case l23 => k_is)
    (case c23 => k_is)
    (case k23 => k_is)
    (case a24 => k_is)
    (case l24 => k_is)
    (case c24 => k_is)
    (case k24 => k_is)
    (case a25 => k_is)
    (case l25 => k_is)
    (case c25 => k_is)
    (case k25 => k_is)
    (case a26 => k_is)
    (case l26 => k_is)
    (case c26 => k_is)
    (case k26 => k_is)
    (case a27 => k_is)
    (case l27 => k_is)
    (case c27 => k_is)
    (case k27 => k_is)
    (case a28 => k_is)
    (case l28 => k_is)
    (case c28 => k_is)
    (case k28 => k_is)
    (case a29 => k_is)
    (case l29 => k_is)
    (case c29 => k_is)
    (case k29 => k_is)
    (case a30 => k_is)
    (case l30 => k_is)
    (case c30 => k_is)
    (case k30 => k_is)
    (case a31 => k_is)
    (case l31 => k_is)
    (case c31 => k_is)
    (case k31 => k_is)
    (case a32 => k_is)
    (case l32 => k_is)
    (case c32 => k_is)
    (case k32 => k_is)
    (case a33 => k_is)
    (case l33 => k_is)
    (case c33 => k_is)
    (case k33 => k_is)
    (case a34 => k_is)
    (case l34 => k_is)
    (case c34 => k_is)
    (case k34 => k_is)
    (case a35 => k_is)
    (case l35 => k_is)
    (case c35 => k_is)
    (case k35 => k_is)
    (case a36 => k_is)
    (case l36 => k_is)
    (case c36 => k_is)
    (case k36 => k_is)
    (case a37 => k_is)
    (case l37 => k_is)
    (case c37 => k_is)
    (case k37 => k_is)
    (case a38 => k_is)
    (case l38 => k_is)
    (case c38 => k_is)
    (case k38 => k_is)
    (case z0 => k_is)
    (case z1 => k_is)
    (case z2 => k_is)
    (case z3 => k_is)
    (case z4 => k_is)
    (case z5 => k_is)
    (case z6 => k_is)
    (case z7 => k_is)
    (case z8 => k_is)
    (case z9 => k_is)
    (case z10 => k_is)
    (case z11 => k_is)
    (case z12 => k_is)
    (case z13 => k_is)
    (case z14 => k_is)
    (case z15 => k_is)
    (case y0 => k_is)
