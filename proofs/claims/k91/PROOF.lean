import PyProof.Rows.All
import Wide.All
import OpenK.AllK
import Wide.FinOn
import HandS.ForMost
import HandS.Wide
import HandS.WideBits
import HandS.Style
import HandS.EndBits
import PyProof.ReprRoads
import PyProof.ReprLen
import PyProof.StrLawsRepr
import PyProof.FitsInt
import HandS.More
import HandS.SortInts
import HandS.SortRule
import PySem.Challenge.RW_divisorways_k91_whole_passes_and_orders
set_option Elab.async false
set_option maxRecDepth 100000
set_option maxHeartbeats 4000000
set_option linter.all false
/-! W0: worlds, the mirror's monads, the judgement of an expression and its mirror in lockstep -/
namespace Wk
open PySem L2
open PyProof.Rows hiding St

/-! ### heaps -/
def Ex (S H : Hp) : Prop := ∀ a o, S a = some o → H a = some o
theorem Ex.rf {S : Hp} : Ex S S := fun _ _ h => h
theorem Ex.tr {S H K : Hp} (a : Ex S H) (b : Ex H K) : Ex S K := fun x o h => b x o (a x o h)
theorem Ex.no {S H : Hp} (e : Ex S H) {a : Addr} (h : H a = none) : S a = none := by
  cases q : S a with
  | none => rfl
  | some o => rw [e a o q] at h; cases h
structure Gm (M : List Addr) (S H S' H' : Hp) : Prop where
  s : Ex S S'
  i : Ex S' H'
  h : ∀ a o, a ∉ M → H a = some o → H' a = some o
  f : ∀ a o, H a = some o → S a = none → S' a = none
  t : ∀ a o, H a = some o → ∃ u, H' a = some u
theorem Gm.rf {M : List Addr} {S H : Hp} (e : Ex S H) : Gm M S H S H := ⟨Ex.rf, e, fun _ _ _ h => h, fun _ _ _ h => h, fun _ o h => ⟨o, h⟩⟩
theorem Gm.tr {M : List Addr} {S H S1 H1 S2 H2 : Hp} (a : Gm M S H S1 H1) (b : Gm M S1 H1 S2 H2) : Gm M S H S2 H2 :=
  ⟨a.s.tr b.s, b.i, fun x o m h => b.h x o m (a.h x o m h), fun x o h n => let ⟨u, q⟩ := a.t x o h; b.f x u q (a.f x o h n), fun x o h => let ⟨u, q⟩ := a.t x o h; b.t x u q⟩
theorem Gm.up {M : List Addr} {S H S1 H1 : Hp} (a : Gm [] S H S1 H1) : Gm M S H S1 H1 := ⟨a.s, a.i, fun x o _ h => a.h x o (by simp) h, a.f, a.t⟩
/-- a new object that stays as it is -/
theorem Gm.new {M : List Addr} {S H : Hp} {p : Addr} {o : HO} (e : Ex S H) (n : H p = none) : Gm M S H (upd S p o) (upd H p o) := by
  have ns := e.no n
  refine ⟨fun a u h => ?_, fun a u h => ?_, fun a u _ h => ?_, fun a u h m => ?_, fun a u h => ⟨u, ?_⟩⟩
  · rw [upd_ne (ne_of_none h ns)]; exact h
  · by_cases q : a = p
    · subst q; rw [upd_same] at h ⊢; exact h
    · rw [upd_ne q] at h ⊢; exact e a u h
  · rw [upd_ne (ne_of_none h n)]; exact h
  · rw [upd_ne (ne_of_none h n)]; exact m
  · rw [upd_ne (ne_of_none h n)]; exact h
/-- a new object that may change -/
theorem Gm.own {M : List Addr} {S H : Hp} {p : Addr} {o : HO} (e : Ex S H) (n : H p = none) : Gm M S H S (upd H p o) := by
  refine ⟨Ex.rf, fun a u h => ?_, fun a u _ h => ?_, fun a u h m => m, fun a u h => ⟨u, ?_⟩⟩
  · rw [upd_ne (ne_of_none (e a u h) n)]; exact e a u h
  · rw [upd_ne (ne_of_none h n)]; exact h
  · rw [upd_ne (ne_of_none h n)]; exact h

/-! ### what changes beside: a lot of cells -/
structure Pt (τ : Type) where
  M : List Addr
  cells : τ → List (Addr × HO)
  adr : ∀ s, (cells s).map (·.1) = M
  nd : M.Nodup
def pt0 : Pt Unit := ⟨[], fun _ => [], fun _ => rfl, List.nodup_nil⟩
def PotAt {τ : Type} (p : Pt τ) (s : τ) (S H : Hp) : Prop := ∀ c ∈ p.cells s, H c.1 = some c.2 ∧ S c.1 = none
theorem pot0 {S H : Hp} : PotAt pt0 () S H := fun _ h => nomatch h
theorem PotAt.go {τ : Type} {p : Pt τ} {s : τ} {S H S1 H1 : Hp} (a : PotAt p s S H) (g : Gm [] S H S1 H1) : PotAt p s S1 H1 := fun c hc =>
  ⟨g.h _ _ (by simp) (a c hc).1, g.f _ _ (a c hc).1 (a c hc).2⟩

/-! ### the mirror's monads -/
class Mir (μ : Type → Type) (τ : outParam Type) extends Monad μ where
  run : {α : Type} → μ α → τ → Option (α × τ)
  run_pure : ∀ {α : Type} (a : α) (s : τ), run (pure a : μ α) s = some (a, s)
  run_bind : ∀ {α β : Type} (m : μ α) (k : α → μ β) (s : τ), run (m >>= k) s = (run m s).bind fun z => run (k z.1) z.2
  lft : {α : Type} → Option α → μ α
  run_lft : ∀ {α : Type} (o : Option α) (s : τ), run (lft o : μ α) s = o.map fun a => (a, s)
instance : Mir Option Unit where
  run o _ := o.map fun a => (a, ())
  run_pure _ _ := rfl
  run_bind m k s := by cases m <;> rfl
  lft o := o
  run_lft _ _ := rfl
def PM (τ α : Type) : Type := τ → Option (α × τ)
instance (τ : Type) : Monad (PM τ) where
  pure a := fun s => some (a, s)
  bind m k := fun s => (m s).bind fun z => k z.1 z.2
instance (τ : Type) : Mir (PM τ) τ where
  run m s := m s
  run_pure _ _ := rfl
  run_bind _ _ _ := rfl
  lft o := fun s => o.map fun a => (a, s)
  run_lft _ _ := rfl
/-- a name for a value -/
def bnd {α β : Type} (a : α) (k : α → β) : β := k a
/-- a condition that must hold -/
def grd (c : Prop) [Decidable c] : Option Unit := if c then some () else none
section
variable {μ : Type → Type} {τ : Type} [Mir μ τ] {α β : Type}
theorem run_of_bind {m : μ α} {k : α → μ β} {s : τ} {z : β × τ} (h : Mir.run (m >>= k) s = some z) : ∃ a s1, Mir.run m s = some (a, s1) ∧ Mir.run (k a) s1 = some z := by
  rw [Mir.run_bind] at h
  cases e : Mir.run m s with
  | none => rw [e] at h; cases h
  | some y => rw [e] at h; exact ⟨y.1, y.2, rfl, h⟩
theorem run_of_lft {o : Option α} {k : α → μ β} {s : τ} {z : β × τ} (h : Mir.run (Mir.lft o >>= k) s = some z) : ∃ a, o = some a ∧ Mir.run (k a) s = some z := by
  obtain ⟨a, s1, h1, h2⟩ := run_of_bind h
  rw [Mir.run_lft] at h1
  cases e : o with
  | none => rw [e] at h1; cases h1
  | some y =>
    rw [e] at h1
    have q : (y, s) = (a, s1) := Option.some.inj h1
    cases q
    exact ⟨_, rfl, h2⟩
theorem run_of_pure {a : α} {s : τ} {z : α × τ} (h : Mir.run (pure a : μ α) s = some z) : z = (a, s) := by
  rw [Mir.run_pure] at h
  exact (Option.some.inj h).symm
theorem run_of_pureB {a : α} {k : α → μ β} {s : τ} {z : β × τ} (h : Mir.run (pure a >>= k) s = some z) : Mir.run (k a) s = some z := by
  obtain ⟨b, s1, h1, h2⟩ := run_of_bind h
  cases run_of_pure h1
  exact h2
theorem grd_of {c : Prop} [Decidable c] {u : Unit} (h : grd c = some u) : c := by
  unfold grd at h
  split at h
  · assumption
  · cases h
end

/-! ### what stands for what -/
abbrev Rp (α : Type) := α → V → Hp → Prop
abbrev Rq (α : Type) := α → List V → Hp → Prop
class Mo {α β : Type} (R : α → β → Hp → Prop) : Prop where
  mo : ∀ {a : α} {v : β} {S S' : Hp}, Ex S S' → R a v S → R a v S'
def rI : Rp Int := fun a v _ => v = .int a
def rB : Rp Bool := fun a v _ => v = .bl a
def rS : Rp Str := fun a v _ => v = .str a
def rN : Rp Unit := fun _ v _ => v = .non
instance : Mo rI := ⟨fun _ h => h⟩
instance : Mo rB := ⟨fun _ h => h⟩
instance : Mo rS := ⟨fun _ h => h⟩
instance : Mo rN := ⟨fun _ h => h⟩
/-- None or a value -/
def rO {α : Type} (R : Rp α) : Rp (Option α) := fun a v S => match a with | none => v = .non | some x => R x v S
instance {α : Type} (R : Rp α) [Mo R] : Mo (rO R) := ⟨fun {a v S S'} e h => by
  cases a with
  | none => exact h
  | some x => exact Mo.mo (R := R) e h⟩
/-- one or the other -/
def rU {α β : Type} (R : Rp α) (R' : Rp β) : Rp (α ⊕ β) := fun a v S => match a with | .inl x => R x v S | .inr y => R' y v S
instance {α β : Type} (R : Rp α) (R' : Rp β) [Mo R] [Mo R'] : Mo (rU R R') := ⟨fun {a v S S'} e h => by
  cases a with
  | inl x => exact Mo.mo (R := R) e h
  | inr x => exact Mo.mo (R := R') e h⟩
def aNil : Rq Unit := fun _ vs _ => vs = []
def aOne {α : Type} (R : Rp α) : Rq α := fun a vs S => ∃ v, vs = [v] ∧ R a v S
def aCons {α β : Type} (R : Rp α) (A : Rq β) : Rq (α × β) := fun a vs S => ∃ v r, vs = v :: r ∧ R a.1 v S ∧ A a.2 r S
inductive All {α : Type} (R : Rp α) (S : Hp) : List α → List V → Prop
  | nil : All R S [] []
  | cons {a : α} {as : List α} {v : V} {vs : List V} : R a v S → All R S as vs → All R S (a :: as) (v :: vs)
def aAll {α : Type} (R : Rp α) : Rq (List α) := fun xs vs S => All R S xs vs
instance : Mo aNil := ⟨fun _ h => h⟩
instance {α : Type} (R : Rp α) [Mo R] : Mo (aOne R) := ⟨fun e ⟨v, h1, h2⟩ => ⟨v, h1, Mo.mo e h2⟩⟩
instance {α β : Type} (R : Rp α) (A : Rq β) [Mo R] [Mo A] : Mo (aCons R A) := ⟨fun e ⟨v, r, h1, h2, h3⟩ => ⟨v, r, h1, Mo.mo e h2, Mo.mo e h3⟩⟩
theorem All.mo {α : Type} {R : Rp α} [Mo R] {S S' : Hp} (e : Ex S S') : ∀ {xs : List α} {vs : List V}, All R S xs vs → All R S' xs vs
  | _, _, .nil => .nil
  | _, _, .cons h t => .cons (Mo.mo e h) (t.mo e)
instance {α : Type} (R : Rp α) [Mo R] : Mo (aAll R) := ⟨fun e h => All.mo e h⟩
theorem All.len {α : Type} {R : Rp α} {S : Hp} : ∀ {xs : List α} {vs : List V}, All R S xs vs → xs.length = vs.length
  | _, _, .nil => rfl
  | _, _, .cons _ t => by simp [t.len]
theorem All.get {α : Type} {R : Rp α} {S : Hp} : ∀ {xs : List α} {vs : List V} {i : Nat} {x : α}, All R S xs vs → xs[i]? = some x → ∃ v, vs[i]? = some v ∧ R x v S
  | _, _, _, _, .nil, e => by simp at e
  | _, _, 0, _, .cons h _, e => by simp at e; subst e; exact ⟨_, rfl, h⟩
  | _, _, i + 1, x, .cons _ t, e => by
    obtain ⟨v, h1, h2⟩ := t.get (i := i) (x := x) (by simpa using e)
    exact ⟨v, by simpa using h1, h2⟩
theorem All.app {α : Type} {R : Rp α} {S : Hp} : ∀ {xs ys : List α} {vs us : List V}, All R S xs vs → All R S ys us → All R S (xs ++ ys) (vs ++ us)
  | _, _, _, _, .nil, h => h
  | _, _, _, _, .cons h t, g => .cons h (t.app g)
theorem All.take {α : Type} {R : Rp α} {S : Hp} : ∀ {xs : List α} {vs : List V} (n : Nat), All R S xs vs → All R S (xs.take n) (vs.take n)
  | _, _, 0, _ => .nil
  | _, _, _ + 1, .nil => .nil
  | _, _, n + 1, .cons h t => .cons h (t.take n)
theorem All.drop {α : Type} {R : Rp α} {S : Hp} : ∀ {xs : List α} {vs : List V} (n : Nat), All R S xs vs → All R S (xs.drop n) (vs.drop n)
  | _, _, 0, h => h
  | _, _, _ + 1, .nil => .nil
  | _, _, n + 1, .cons _ t => t.drop n
theorem All.set {α : Type} {R : Rp α} {S : Hp} {x : α} {v : V} (h : R x v S) : ∀ {xs : List α} {vs : List V} (n : Nat), All R S xs vs → All R S (xs.set n x) (vs.set n v)
  | _, _, _, .nil => .nil
  | _, _, 0, .cons _ t => .cons h t
  | _, _, n + 1, .cons g t => .cons g (t.set h n)
theorem All.ints {S : Hp} : ∀ {xs : List Int} {vs : List V}, All rI S xs vs → vs = xs.map V.int
  | _, _, .nil => rfl
  | _, _, .cons h t => by rw [t.ints, show _ = V.int _ from h]; rfl
theorem All.ofInts {S : Hp} : ∀ xs : List Int, All rI S xs (xs.map V.int)
  | [] => .nil
  | x :: xs => .cons rfl (All.ofInts xs)
theorem All.bools {S : Hp} : ∀ {xs : List Bool} {vs : List V}, All rB S xs vs → vs = xs.map V.bl
  | _, _, .nil => rfl
  | _, _, .cons h t => by rw [t.bools, show _ = V.bl _ from h]; rfl
/-- a tuple, a list that stays -/
def rT {α : Type} (K : PySem.W.Frag) (A : Rq α) : Rp α := fun a v S => ∃ p vs, v = .ref p ∧ SqT K S p vs ∧ A a vs S
def rL {α : Type} (A : Rq α) : Rp α := fun a v S => ∃ p vs, v = .ref p ∧ S p = some (.lst vs) ∧ A a vs S
theorem rd_ex {S S' : Hp} (e : Ex S S') {a : Addr} {u : HO} (h : Rd S a u) : Rd S' a u := by
  rcases h with h | ⟨o, h⟩
  · exact .inl (e _ _ h)
  · exact .inr ⟨o, e _ _ h⟩
theorem sqT_ex {K : PySem.W.Frag} {S S' : Hp} (e : Ex S S') {a : Addr} {xs : List V} (h : SqT K S a xs) : SqT K S' a xs := by
  rcases h with h | h
  · exact .inl (rd_ex e h)
  · exact .inr h
theorem sqL_ex {K : PySem.W.Frag} {S S' : Hp} (e : Ex S S') {a : Addr} {xs : List V} (h : SqL K S a xs) : SqL K S' a xs := by
  rcases h with h | h
  · exact .inl (rd_ex e h)
  · exact .inr h
instance {α : Type} (K : PySem.W.Frag) (A : Rq α) [Mo A] : Mo (rT K A) := ⟨fun e ⟨p, vs, h1, h2, h3⟩ => ⟨p, vs, h1, sqT_ex e h2, Mo.mo e h3⟩⟩
instance {α : Type} (A : Rq α) [Mo A] : Mo (rL A) := ⟨fun e ⟨p, vs, h1, h2, h3⟩ => ⟨p, vs, h1, e _ _ h2, Mo.mo e h3⟩⟩

/-! ### the judgements: the program's reading and the mirror go in lockstep -/
section
variable {μ : Type → Type} {τ : Type} [Mir μ τ] {α β γ δ : Type}
def Ev (p : Pt τ) (te : TE) (σ : St) (S H : Hp) (m : (α → μ β) → μ β) (R : Rp α) : Prop :=
  ∀ S1 H1 s, Gm p.M S H S1 H1 → PotAt p s S1 H1 → ∀ (k : α → μ β) z, Mir.run (m k) s = some z → ∀ Q : VK,
    (∀ a v S2 H2 s2, Gm p.M S1 H1 S2 H2 → PotAt p s2 S2 H2 → R a v S2 → Mir.run (k a) s2 = some z → Q v H2) → te σ H1 Q
/-- a new list -/
def EvL (p : Pt τ) (te : TE) (σ : St) (S H : Hp) (m : (α → μ β) → μ β) (A : Rq α) : Prop :=
  ∀ S1 H1 s, Gm p.M S H S1 H1 → PotAt p s S1 H1 → ∀ (k : α → μ β) z, Mir.run (m k) s = some z → ∀ Q : VK,
    (∀ a q vs S2 H2 s2, Gm p.M S1 H1 S2 H2 → PotAt p s2 S2 H2 → H1 q = none → H2 q = some (.lst vs) → S2 q = none → q ∉ p.M → A a vs S2 → Mir.run (k a) s2 = some z → Q (.ref q) H2) → te σ H1 Q
/-- a list that can be read -/
def EvR (p : Pt τ) (te : TE) (σ : St) (S H : Hp) (m : (α → μ β) → μ β) (A : Rq α) : Prop :=
  ∀ S1 H1 s, Gm p.M S H S1 H1 → PotAt p s S1 H1 → ∀ (k : α → μ β) z, Mir.run (m k) s = some z → ∀ Q : VK,
    (∀ a q vs S2 H2 s2, Gm p.M S1 H1 S2 H2 → PotAt p s2 S2 H2 → H2 q = some (.lst vs) → q ∉ p.M → A a vs S2 → Mir.run (k a) s2 = some z → Q (.ref q) H2) → te σ H1 Q
def EvT (p : Pt τ) (tt : TT) (σ : St) (S H : Hp) (m : (Bool → μ β) → μ β) : Prop :=
  ∀ S1 H1 s, Gm p.M S H S1 H1 → PotAt p s S1 H1 → ∀ (k : Bool → μ β) z, Mir.run (m k) s = some z → ∀ Q : Bool → Hp → Prop,
    (∀ b S2 H2 s2, Gm p.M S1 H1 S2 H2 → PotAt p s2 S2 H2 → Mir.run (k b) s2 = some z → Q b H2) → tt σ H1 Q
def EvA (p : Pt τ) (ta : TA) (σ : St) (S H : Hp) (m : (α → μ β) → μ β) (A : Rq α) : Prop :=
  ∀ S1 H1 s, Gm p.M S H S1 H1 → PotAt p s S1 H1 → ∀ (k : α → μ β) z, Mir.run (m k) s = some z → ∀ Q : List V → Hp → Prop,
    (∀ a vs S2 H2 s2, Gm p.M S1 H1 S2 H2 → PotAt p s2 S2 H2 → A a vs S2 → Mir.run (k a) s2 = some z → Q vs H2) → ta σ H1 Q
variable {p : Pt τ} {σ : St} {S H : Hp} {te ta tb : TE} {tt tu : TT}
theorem Ev.go {m : (α → μ β) → μ β} {R : Rp α} {S1 H1 : Hp} (h : Ev p te σ S H m R) (g : Gm p.M S H S1 H1) : Ev p te σ S1 H1 m R :=
  fun S2 H2 s g2 ps => h S2 H2 s (g.tr g2) ps

theorem e_var {i : Nat} {a : α} {v : V} {R : Rp α} [Mo R] (e : σ[i]? = some (some v)) (r : R a v S) : Ev (μ := μ) (β := β) p (tVar i) σ S H (fun k => k a) R :=
  fun _ _ _ g ps _ _ hm _ q => ⟨v, e, q _ _ _ _ _ (Gm.rf g.i) ps (Mo.mo g.s r) hm⟩
theorem e_cI {i : Int} : Ev (μ := μ) (β := β) p (tC (.int i)) σ S H (fun k => k i) rI := fun _ _ _ g ps _ _ hm _ q => q _ _ _ _ _ (Gm.rf g.i) ps rfl hm
theorem e_cB {b : Bool} : Ev (μ := μ) (β := β) p (tC (.bl b)) σ S H (fun k => k b) rB := fun _ _ _ g ps _ _ hm _ q => q _ _ _ _ _ (Gm.rf g.i) ps rfl hm
theorem e_cS {x : Str} : Ev (μ := μ) (β := β) p (tC (.str x)) σ S H (fun k => k x) rS := fun _ _ _ g ps _ _ hm _ q => q _ _ _ _ _ (Gm.rf g.i) ps rfl hm
theorem e_cN : Ev (μ := μ) (β := β) p (tC .non) σ S H (fun k => k ()) rN := fun _ _ _ g ps _ _ hm _ q => q _ _ _ _ _ (Gm.rf g.i) ps rfl hm
/-- a value is also one of more kinds -/
theorem Ev.map {m : (α → μ β) → μ β} {R : Rp α} {R' : Rp γ} (f : α → γ) (h : Ev p te σ S H m R) (hr : ∀ a v S, R a v S → R' (f a) v S) : Ev p te σ S H (fun k => m fun a => k (f a)) R' :=
  fun S1 H1 s g ps k z hm Q q => h S1 H1 s g ps _ z hm Q fun a v S2 H2 s2 g2 p2 r hm2 => q _ v S2 H2 s2 g2 p2 (hr _ _ _ r) hm2
theorem Ev.some {m : (α → μ β) → μ β} {R : Rp α} (h : Ev p te σ S H m R) : Ev p te σ S H (fun k => m fun a => k (Option.some a)) (rO R) := h.map Option.some fun _ _ _ r => r
theorem Ev.none {m : (Unit → μ β) → μ β} {R : Rp α} (h : Ev p te σ S H m rN) : Ev p te σ S H (fun k => m fun _ => k Option.none) (rO R) := h.map (fun _ => Option.none) fun _ _ _ r => r
theorem Ev.inl {m : (α → μ β) → μ β} {R : Rp α} {R' : Rp γ} (h : Ev p te σ S H m R) : Ev p te σ S H (fun k => m fun a => k (Sum.inl a)) (rU R R') := h.map Sum.inl fun _ _ _ r => r
theorem Ev.inr {m : (α → μ β) → μ β} {R : Rp α} {R' : Rp γ} (h : Ev p te σ S H m R) : Ev p te σ S H (fun k => m fun a => k (Sum.inr a)) (rU R' R) := h.map Sum.inr fun _ _ _ r => r

/-! operators of two ints -/
theorem e_op {r : R2} {mA mB : (Int → μ β) → μ β} {f : Int → Int → (γ → μ β) → μ β} {R : Rp γ} (ha : Ev p ta σ S H mA rI) (hb : Ev p tb σ S H mB rI)
    (hr : ∀ i j H1 S1 s, Ex S1 H1 → ∀ (k : γ → μ β) z, Mir.run (f i j k) s = some z → ∀ Q : VK, (∀ c v, R c v S1 → Mir.run (k c) s = some z → Q v H1) → r (.int i) (.int j) H1 Q) :
    Ev p (tOp r ta tb) σ S H (fun k => mA fun i => mB fun j => f i j k) R := fun S1 H1 s g ps k z hm Q q =>
  ha S1 H1 s g ps _ z hm _ fun i v S2 H2 s2 g2 p2 r2 hm2 => hb S2 H2 s2 (g.tr g2) p2 _ z hm2 _ fun j u S3 H3 s3 g3 p3 r3 hm3 => by
    cases (show v = .int i from r2)
    cases (show u = .int j from r3)
    exact hr i j H3 S3 s3 g3.i k z hm3 Q fun c w rc hk => q c w S3 H3 s3 (g2.tr g3) p3 rc hk
/-- a total operator -/
theorem e_op0 {C : Int → Int → V} {D : Int → Int → γ} {mA mB : (Int → μ β) → μ β} {R : Rp γ} (ha : Ev p ta σ S H mA rI) (hb : Ev p tb σ S H mB rI) (hR : ∀ i j S, R (D i j) (C i j) S) :
    Ev p (tOp (rI0 C) ta tb) σ S H (fun k => mA fun i => mB fun j => k (D i j)) R :=
  e_op (f := fun i j k => k (D i j)) ha hb fun i j _ S1 s _ k z hm Q q => ⟨i, j, rfl, rfl, q _ _ (hR i j S1) hm⟩
/-- one with a condition -/
theorem e_opC {P : Int → Int → Prop} {C : Int → Int → V} {D : Int → Int → γ} {c : Int → Int → Prop} [∀ i j, Decidable (c i j)] {mA mB : (Int → μ β) → μ β} {R : Rp γ} (ha : Ev p ta σ S H mA rI) (hb : Ev p tb σ S H mB rI)
    (hc : ∀ i j, c i j → P i j) (hR : ∀ i j S, c i j → R (D i j) (C i j) S) :
    Ev p (tOp (L2.rI P C) ta tb) σ S H (fun k => mA fun i => mB fun j => Mir.lft (grd (c i j)) >>= fun _ => k (D i j)) R :=
  e_op (f := fun i j k => Mir.lft (grd (c i j)) >>= fun _ => k (D i j)) ha hb fun i j _ S1 s _ k z hm Q q => by
    obtain ⟨_, e, hm⟩ := run_of_lft hm
    have h := grd_of e
    exact ⟨i, j, rfl, rfl, hc i j h, q _ _ (hR i j S1 h) hm⟩
end
/-- of a size that no bound of the model meets -/
def Sm (a : Int) : Prop := a.natAbs.log2 < 60000000
instance (a : Int) : Decidable (Sm a) := inferInstanceAs (Decidable (_ < _))
theorem Sm.of {a : Int} {n : Nat} (h : a.natAbs < 2 ^ n) (h0 : 0 < n) (hn : n ≤ 60000000) : Sm a := Nat.lt_of_lt_of_le (PySem.Flt.log2_lt_of h0 h) hn
theorem bits_log (a : Int) : Builtin.Int.intBits a ≤ a.natAbs.log2 + 1 := by
  unfold Builtin.Int.intBits
  split <;> omega
theorem Sm.mul {a b : Int} (h : Sm a ∧ Sm b) : CMulX a b := by
  have h1 := bits_log a
  have h2 := bits_log b
  unfold Sm at h
  unfold CMulX
  omega
end Wk
set_option Elab.async false
set_option maxRecDepth 100000
set_option maxHeartbeats 4000000
set_option linter.all false
/-! W1: the world of a def's body, statements, loops, comprehensions -/
namespace Wk
open PySem L2
open PyProof.Rows hiding St
section
variable {μ : Type → Type} {τ : Type} [Mir μ τ] {α β γ δ : Type} {p : Pt τ} {σ : St} {S H S0 H0 : Hp} {te ta tb : TE} {tt : TT} {L : List (Addr × HO)} {K : PySem.W.Frag}

/-- what a body knows: how it stands to its entry (S0, H0), its own objects L -/
structure Wd (p : Pt τ) (S0 H0 S H : Hp) (L : List (Addr × HO)) : Prop where
  g : Gm p.M S0 H0 S H
  o : ∀ c ∈ L, H c.1 = some c.2 ∧ S c.1 = none ∧ H0 c.1 = none
  n : (p.M ++ L.map (·.1)).Nodup
theorem Wd.start (e : Ex S H) : Wd p S H S H [] := ⟨Gm.rf e, fun _ h => (nomatch h), by simpa using p.nd⟩
theorem Wd.i (w : Wd p S0 H0 S H L) : Ex S H := w.g.i
theorem Wd.nm (w : Wd p S0 H0 S H L) {c : Addr × HO} (h : c ∈ L) : c.1 ∉ p.M := fun q => by
  have z := List.nodup_append.mp w.n
  exact z.2.2 c.1 q c.1 (List.mem_map_of_mem h) rfl
theorem Wd.go {S1 H1 : Hp} (w : Wd p S0 H0 S H L) (g : Gm p.M S H S1 H1) : Wd p S0 H0 S1 H1 L :=
  ⟨w.g.tr g, fun c h => ⟨g.h _ _ (w.nm h) (w.o c h).1, g.f _ _ (w.o c h).1 (w.o c h).2.1, (w.o c h).2.2⟩, w.n⟩
theorem Wd.add {S1 H1 : Hp} {q : Addr} {o : HO} (w : Wd p S0 H0 S H L) (g : Gm p.M S H S1 H1) (n : H q = none) (e : H1 q = some o) (s : S1 q = none) (m : q ∉ p.M) : Wd p S0 H0 S1 H1 ((q, o) :: L) := by
  have w1 := w.go g
  have n0 : H0 q = none := by
    cases z : H0 q with
    | none => rfl
    | some u =>
      obtain ⟨u', z'⟩ := w.g.t q u z
      rw [n] at z'; cases z'
  have nL : q ∉ L.map (·.1) := fun z => by
    obtain ⟨c, hc, e'⟩ := List.mem_map.mp z
    have := (w.o c hc).1
    rw [e', n] at this; cases this
  refine ⟨w1.g, fun c h => ?_, ?_⟩
  · rcases List.mem_cons.mp h with z | z
    · subst z; exact ⟨e, s, n0⟩
    · exact w1.o c z
  · have z := List.nodup_append.mp w.n
    rw [List.map_cons]
    refine List.nodup_append.mpr ⟨z.1, List.nodup_cons.mpr ⟨nL, z.2.1⟩, fun a ha b hb e' => ?_⟩
    rcases List.mem_cons.mp hb with z' | z'
    · have z2 : b = q := z'
      exact m (by rw [← z2, ← e']; exact ha)
    · exact z.2.2 a ha b z' e'
theorem Wd.at {i : Nat} {q : Addr} {o : HO} (w : Wd p S0 H0 S H L) (h : L[i]? = some (q, o)) : H q = some o ∧ S q = none ∧ H0 q = none := w.o (q, o) (List.mem_of_getElem? h)
theorem set_fst {q : Addr} {o o' : HO} : ∀ {L : List (Addr × HO)} {i : Nat}, L[i]? = some (q, o) → (L.set i (q, o')).map (·.1) = L.map (·.1)
  | [], _, h => by simp at h
  | c :: L, 0, h => by
    simp at h; subst h; rfl
  | c :: L, i + 1, h => by
    show c.1 :: (L.set i (q, o')).map (·.1) = c.1 :: L.map (·.1)
    rw [set_fst (i := i) (by simpa using h)]
theorem Gm.put {M : List Addr} {S1 H1 : Hp} {q : Addr} {o : HO} (g : Gm M S H S1 H1) (n : H q = none) (s : S1 q = none) : Gm M S H S1 (upd H1 q o) := by
  refine ⟨g.s, fun a u h => ?_, fun a u m h => ?_, g.f, fun a u h => ?_⟩
  · rw [upd_ne (ne_of_none h s)]; exact g.i a u h
  · rw [upd_ne (ne_of_none h n)]; exact g.h a u m h
  · rw [upd_ne (ne_of_none h n)]; exact g.t a u h
theorem Wd.put {i : Nat} {q : Addr} {o o' : HO} (w : Wd p S0 H0 S H L) (h : L[i]? = some (q, o)) : Wd p S0 H0 S (upd H q o') (L.set i (q, o')) := by
  obtain ⟨h1, h2, h3⟩ := w.at h
  refine ⟨w.g.put h3 h2, fun c hc => ?_, by rw [set_fst h]; exact w.n⟩
  have nd : (L.map (·.1)).Nodup := (List.nodup_append.mp w.n).2.1
  have hi : i < L.length := (List.getElem?_eq_some_iff.mp h).1
  obtain ⟨j, hj, e⟩ := List.mem_iff_getElem.mp hc
  by_cases ej : j = i
  · subst ej
    rw [List.getElem_set_self] at e
    subst e
    exact ⟨upd_same, h2, h3⟩
  · rw [List.getElem_set_ne (Ne.symm ej)] at e
    have hj' : j < L.length := by simpa using hj
    have mem : c ∈ L := by rw [← e]; exact List.getElem_mem hj'
    have ne : c.1 ≠ q := fun z => ej <| by
      have z1 : (L.map (·.1))[j]? = some q := by rw [List.getElem?_map, List.getElem?_eq_getElem hj', e]; simp [z]
      have z2 : (L.map (·.1))[i]? = some q := by rw [List.getElem?_map, h]; rfl
      exact nd_ix nd z1 z2
    obtain ⟨a, b, d⟩ := w.o c mem
    exact ⟨by rw [upd_ne ne]; exact a, b, d⟩
theorem PotAt.put {s : τ} {q : Addr} {o : HO} (a : PotAt p s S H) (m : q ∉ p.M) : PotAt p s S (upd H q o) := fun c hc => by
  have : c.1 ≠ q := fun z => m (by rw [← z, ← p.adr s]; exact List.mem_map_of_mem hc)
  exact ⟨by rw [upd_ne this]; exact (a c hc).1, (a c hc).2⟩
theorem PotAt.frz {s : τ} {q : Addr} {o : HO} (a : PotAt p s S H) (m : q ∉ p.M) : PotAt p s (upd S q o) H := fun c hc => by
  have : c.1 ≠ q := fun z => m (by rw [← z, ← p.adr s]; exact List.mem_map_of_mem hc)
  exact ⟨(a c hc).1, by rw [upd_ne this]; exact (a c hc).2⟩
theorem erase_sub {i : Nat} {c : Addr × HO} (h : c ∈ L.eraseIdx i) : c ∈ L := List.mem_of_mem_eraseIdx h
theorem ex_frz {q : Addr} {o : HO} (s : S q = none) : Ex S (upd S q o) := fun a u h => by rw [upd_ne (ne_of_none h s)]; exact h
/-- an own object stays from now on -/
theorem Wd.frz {i : Nat} {q : Addr} {o : HO} (w : Wd p S0 H0 S H L) (h : L[i]? = some (q, o)) : Wd p S0 H0 (upd S q o) H (L.eraseIdx i) := by
  obtain ⟨h1, h2, h3⟩ := w.at h
  have hi : i < L.length := (List.getElem?_eq_some_iff.mp h).1
  refine ⟨⟨w.g.s.tr (ex_frz h2), fun a u e => ?_, w.g.h, fun a u e n => ?_, w.g.t⟩, fun c hc => ?_, ?_⟩
  · by_cases z : a = q
    · subst z; rw [upd_same] at e; cases e; exact h1
    · rw [upd_ne z] at e; exact w.g.i a u e
  · rw [upd_ne (ne_of_none e h3)]; exact w.g.f a u e n
  · obtain ⟨a, b, d⟩ := w.o c (erase_sub hc)
    have nd : (L.map (·.1)).Nodup := (List.nodup_append.mp w.n).2.1
    have ne : c.1 ≠ q := fun z => by
      obtain ⟨j, hj, e⟩ := List.mem_iff_getElem.mp hc
      have e1 : L.eraseIdx i = L.take i ++ L.drop (i + 1) := List.eraseIdx_eq_take_drop_succ L i
      have e2 : L = L.take i ++ (q, o) :: L.drop (i + 1) := by
        have ev : L[i] = (q, o) := by
          have := List.getElem?_eq_getElem hi
          rw [h] at this
          exact (Option.some.inj this).symm
        rw [← ev]
        simp
      rw [e2, List.map_append, List.map_cons] at nd
      have nd' := List.nodup_append.mp nd
      rw [e1] at hc
      rcases List.mem_append.mp hc with z1 | z1
      · exact nd'.2.2 c.1 (List.mem_map_of_mem z1) q (by simp) z
      · exact (List.nodup_cons.mp nd'.2.1).1 (by show q ∈ _; rw [← z]; exact List.mem_map_of_mem (f := fun c : Addr × HO => c.1) z1)
    exact ⟨a, by rw [upd_ne ne]; exact b, d⟩
  · refine w.n.sublist (List.Sublist.append (List.Sublist.refl _) (List.Sublist.map _ (List.eraseIdx_sublist L i)))
theorem Wd.drop {i : Nat} (w : Wd p S0 H0 S H L) : Wd p S0 H0 S H (L.eraseIdx i) :=
  ⟨w.g, fun c h => w.o c (erase_sub h), w.n.sublist (List.Sublist.append (List.Sublist.refl _) (List.Sublist.map _ (List.eraseIdx_sublist L i)))⟩
/-- the values at some places -/
def pick {α : Type} (ix : List Nat) (l : List α) : List α := ix.filterMap fun i => l[i]?
theorem mem_pick {α : Type} {ix : List Nat} {l : List α} {a : α} (h : a ∈ pick ix l) : ∃ i ∈ ix, l[i]? = some a := List.mem_filterMap.mp h
theorem pick_nd {L : List (Addr × HO)} (nd : (L.map (·.1)).Nodup) : ∀ {ix : List Nat}, ix.Nodup → ((pick ix L).map (·.1)).Nodup
  | [], _ => List.nodup_nil
  | i :: ix, h => by
    have h' := List.nodup_cons.mp h
    have t := pick_nd nd h'.2
    unfold pick at t ⊢
    rw [List.filterMap_cons]
    cases e : L[i]? with
    | none => exact t
    | some c =>
      refine List.nodup_cons.mpr ⟨fun z => ?_, t⟩
      obtain ⟨d, hd, e2⟩ := List.mem_map.mp z
      obtain ⟨j, hj, e3⟩ := mem_pick hd
      have z1 : (L.map (·.1))[j]? = some c.1 := by rw [List.getElem?_map, e3]; simp [e2]
      have z2 : (L.map (·.1))[i]? = some c.1 := by rw [List.getElem?_map, e]; rfl
      exact h'.1 (nd_ix nd z2 z1 ▸ hj)
theorem Wd.pick (ix : List Nat) (w : Wd p S0 H0 S H L) (h : ix.Nodup) : Wd p S0 H0 S H (Wk.pick ix L) := by
  have z := List.nodup_append.mp w.n
  have sub : ∀ c ∈ Wk.pick ix L, c ∈ L := fun c hc => by
    obtain ⟨i, _, e⟩ := mem_pick hc
    exact List.mem_of_getElem? e
  refine ⟨w.g, fun c hc => w.o c (sub c hc), List.nodup_append.mpr ⟨z.1, pick_nd z.2.1 h, fun a ha b hb => ?_⟩⟩
  obtain ⟨c, hc, e⟩ := List.mem_map.mp hb
  exact z.2.2 a ha b (List.mem_map.mpr ⟨c, sub c hc, e⟩)
theorem Wd.nmAt {i : Nat} {q : Addr} {o : HO} (w : Wd p S0 H0 S H L) (h : L[i]? = some (q, o)) : q ∉ p.M := w.nm (c := (q, o)) (List.mem_of_getElem? h)

/-! ### lists that are made, read -/
theorem EvL.frz {A : Rq α} {m : (α → μ β) → μ β} [Mo A] (h : EvL p te σ S H m A) : Ev p te σ S H m (rL A) := fun S1 H1 s g ps k z hm Q q =>
  h S1 H1 s g ps k z hm Q fun a x vs S2 H2 s2 g2 p2 n1 e2 n2 m2 r hm2 => by
    refine q a (.ref x) (upd S2 x (.lst vs)) H2 s2 ⟨g2.s.tr (ex_frz n2), fun b u e => ?_, g2.h, fun b u e n => ?_, g2.t⟩ (p2.frz m2) ⟨x, vs, rfl, upd_same, Mo.mo (ex_frz n2) r⟩ hm2
    · by_cases z : b = x
      · subst z; rw [upd_same] at e; cases e; exact e2
      · rw [upd_ne z] at e; exact g2.i b u e
    · rw [upd_ne (ne_of_none e n1)]; exact g2.f b u e n
theorem EvL.rd {A : Rq α} {m : (α → μ β) → μ β} (h : EvL p te σ S H m A) : EvR p te σ S H m A := fun S1 H1 s g ps k z hm Q q =>
  h S1 H1 s g ps k z hm Q fun a x vs S2 H2 s2 g2 p2 _ e2 _ m2 r hm2 => q a x vs S2 H2 s2 g2 p2 e2 m2 r hm2
theorem pot_nM {s : τ} (ps : PotAt p s S H) {x : Addr} {o : HO} (hx : S x = some o) : x ∉ p.M := fun z => by
  rw [← p.adr s] at z
  obtain ⟨c, hc, e⟩ := List.mem_map.mp z
  have := (ps c hc).2
  rw [e, hx] at this; cases this
theorem Ev.rd {A : Rq α} {m : (α → μ β) → μ β} (h : Ev p te σ S H m (rL A)) : EvR p te σ S H m A := fun S1 H1 s g ps k z hm Q q =>
  h S1 H1 s g ps k z hm Q fun a v S2 H2 s2 g2 p2 ⟨x, vs, e, h1, h2⟩ hm2 => by
    subst e
    exact q a x vs S2 H2 s2 g2 p2 (g2.i _ _ h1) (pot_nM p2 h1) h2 hm2
theorem e_own {i : Nat} {a : α} {q : Addr} {vs : List V} {A : Rq α} [Mo A] (e : σ[i]? = some (some (.ref q))) (hq : H q = some (.lst vs)) (hM : q ∉ p.M) (r : A a vs S) : EvR (μ := μ) (β := β) p (tVar i) σ S H (fun k => k a) A :=
  fun _ _ _ g ps _ _ hm _ k => ⟨.ref q, e, k _ _ _ _ _ _ (Gm.rf g.i) ps (g.h _ _ hM hq) hM (Mo.mo g.s r) hm⟩
theorem w_own {i j : Nat} {a : α} {q : Addr} {vs : List V} {A : Rq α} [Mo A] (w : Wd p S0 H0 S H L) (hj : L[j]? = some (q, .lst vs)) (e : σ[i]? = some (some (.ref q))) (r : A a vs S) : EvR (μ := μ) (β := β) p (tVar i) σ S H (fun k => k a) A :=
  e_own e (w.at hj).1 (w.nmAt hj) r

/-! ### arguments, displays -/
theorem a_nil : EvA (μ := μ) (β := β) p tNil σ S H (fun k => k ()) aNil := fun _ _ _ g ps _ _ hm _ q => q _ _ _ _ _ (Gm.rf g.i) ps rfl hm
theorem a_one {m : (α → μ β) → μ β} {R : Rp α} (h : Ev p te σ S H m R) : EvA p (tCons te tNil) σ S H m (aOne R) := fun S1 H1 s g ps k z hm Q q =>
  h S1 H1 s g ps k z hm _ fun a v S2 H2 s2 g2 p2 r hm2 => q a [v] S2 H2 s2 g2 p2 ⟨v, rfl, r⟩ hm2
theorem a_cons {tr : TA} {m : (α → μ β) → μ β} {m' : (γ → μ β) → μ β} {R : Rp α} {A : Rq γ} [Mo R] (h : Ev p te σ S H m R) (h' : EvA p tr σ S H m' A) : EvA p (tCons te tr) σ S H (fun k => m fun a => m' fun b => k (a, b)) (aCons R A) := fun S1 H1 s g ps k z hm Q q =>
  h S1 H1 s g ps _ z hm _ fun a v S2 H2 s2 g2 p2 r hm2 => h' S2 H2 s2 (g.tr g2) p2 _ z hm2 _ fun b vs S3 H3 s3 g3 p3 r3 hm3 => q (a, b) (v :: vs) S3 H3 s3 (g2.tr g3) p3 ⟨v, vs, rfl, Mo.mo g3.s r, r3⟩ hm3
theorem a_nilL {R : Rp α} : EvA (μ := μ) (β := β) p tNil σ S H (fun k => k []) (aAll R) := fun _ _ _ g ps _ _ hm _ q => q _ _ _ _ _ (Gm.rf g.i) ps .nil hm
theorem a_consL {tr : TA} {m : (α → μ β) → μ β} {m' : (List α → μ β) → μ β} {R : Rp α} [Mo R] (h : Ev p te σ S H m R) (h' : EvA p tr σ S H m' (aAll R)) : EvA p (tCons te tr) σ S H (fun k => m fun a => m' fun b => k (a :: b)) (aAll R) := fun S1 H1 s g ps k z hm Q q =>
  h S1 H1 s g ps _ z hm _ fun a v S2 H2 s2 g2 p2 r hm2 => h' S2 H2 s2 (g.tr g2) p2 _ z hm2 _ fun b vs S3 H3 s3 g3 p3 r3 hm3 => q (a :: b) (v :: vs) S3 H3 s3 (g2.tr g3) p3 (.cons (Mo.mo g3.s r) r3) hm3
/-- how many values there are -/
def ArN (n : Nat) (A : Rq α) : Prop := ∀ a vs S, A a vs S → vs.length ≤ n
theorem arN_nil : ArN 0 aNil := fun _ vs _ h => by rw [show vs = [] from h]; exact Nat.le_refl _
theorem arN_one {R : Rp α} : ArN 1 (aOne R) := fun _ vs _ ⟨v, e, _⟩ => by rw [e]; exact Nat.le_refl _
theorem arN_cons {n : Nat} {R : Rp α} {A : Rq γ} (h : ArN n A) : ArN (n + 1) (aCons R A) := fun _ vs _ ⟨v, r, e, _, h2⟩ => by
  rw [e]
  exact Nat.succ_le_succ (h _ _ _ h2)
theorem e_tup {m : (α → μ β) → μ β} {A : Rq α} {t : TA} {n : Nat} [Mo A] (h : EvA p t σ S H m A) (hn : ArN n A) (hz : n ≤ sizeLine) : Ev p (tTup t) σ S H m (rT K A) := fun S1 H1 s g ps k z hm Q q =>
  h S1 H1 s g ps k z hm _ fun a vs S2 H2 s2 g2 p2 r hm2 => ⟨Nat.le_trans (hn _ _ _ r) hz, fun x hx =>
    have g3 : Gm p.M S2 H2 (upd S2 x (.tup vs)) (upd H2 x (.tup vs)) := Gm.new g2.i hx
    q a _ _ _ s2 (g2.tr g3) (p2.go (Gm.new g2.i hx)) ⟨x, vs, rfl, .of upd_same, Mo.mo g3.s r⟩ hm2⟩
/-- a display of one kind of items -/
theorem e_tupL {m : (List α → μ β) → μ β} {R : Rp α} {t : TA} [Mo R] (h : EvA p t σ S H m (aAll R)) : Ev p (tTup t) σ S H (fun k => m fun a => Mir.lft (grd (a.length ≤ 16000000)) >>= fun _ => k a) (rT K (aAll R)) := fun S1 H1 s g ps k z hm Q q =>
  h S1 H1 s g ps _ z hm _ fun a vs S2 H2 s2 g2 p2 r hm2 => by
    obtain ⟨_, e, hm2⟩ := run_of_lft hm2
    have hl := grd_of e
    have hr : All R S2 a vs := r
    refine ⟨by rw [← hr.len, sizeLine_eq]; omega, fun x hx => ?_⟩
    have g3 : Gm p.M S2 H2 (upd S2 x (.tup vs)) (upd H2 x (.tup vs)) := Gm.new g2.i hx
    exact q a _ _ _ s2 (g2.tr g3) (p2.go (Gm.new g2.i hx)) ⟨x, vs, rfl, .of upd_same, Mo.mo (R := aAll R) g3.s r⟩ hm2
theorem new_nM {s : τ} (ps : PotAt p s S H) {x : Addr} (hx : H x = none) : x ∉ p.M := fun z => by
  rw [← p.adr s] at z
  obtain ⟨c, hc, e⟩ := List.mem_map.mp z
  have := (ps c hc).1
  rw [e, hx] at this; cases this
theorem l_lst {m : (α → μ β) → μ β} {A : Rq α} {t : TA} {n : Nat} [Mo A] (h : EvA p t σ S H m A) (hn : ArN n A) (hz : n ≤ sizeLine) : EvL p (tLst t) σ S H m A := fun S1 H1 s g ps k z hm Q q =>
  h S1 H1 s g ps k z hm _ fun a vs S2 H2 s2 g2 p2 r hm2 => ⟨Nat.le_trans (hn _ _ _ r) hz, fun x hx =>
    have g3 : Gm p.M S2 H2 S2 (upd H2 x (.lst vs)) := Gm.own g2.i hx
    have n1 : H1 x = none := by
      cases e : H1 x with
      | none => rfl
      | some u => obtain ⟨u', e'⟩ := g2.t x u e; rw [hx] at e'; cases e'
    q a x vs S2 _ s2 (g2.tr g3) (p2.go (Gm.own g2.i hx)) n1 upd_same (g2.i.no hx) (new_nM p2 hx) r hm2⟩
theorem l_lstL {m : (List α → μ β) → μ β} {R : Rp α} {t : TA} [Mo R] (h : EvA p t σ S H m (aAll R)) : EvL p (tLst t) σ S H (fun k => m fun a => Mir.lft (grd (a.length ≤ 16000000)) >>= fun _ => k a) (aAll R) := fun S1 H1 s g ps k z hm Q q =>
  h S1 H1 s g ps _ z hm _ fun a vs S2 H2 s2 g2 p2 r hm2 => by
    obtain ⟨_, e, hm2⟩ := run_of_lft hm2
    have hl := grd_of e
    have hr : All R S2 a vs := r
    refine ⟨by rw [← hr.len, sizeLine_eq]; omega, fun x hx => ?_⟩
    have g3 : Gm p.M S2 H2 S2 (upd H2 x (.lst vs)) := Gm.own g2.i hx
    have n1 : H1 x = none := by
      cases e : H1 x with
      | none => rfl
      | some u => obtain ⟨u', e'⟩ := g2.t x u e; rw [hx] at e'; cases e'
    exact q a x vs S2 _ s2 (g2.tr g3) (p2.go (Gm.own g2.i hx)) n1 upd_same (g2.i.no hx) (new_nM p2 hx) r hm2

/-! ### tests, choices -/
theorem t_B {m : (Bool → μ β) → μ β} (h : Ev p te σ S H m rB) : EvT p (tB te) σ S H m := fun S1 H1 s g ps k z hm Q q =>
  h S1 H1 s g ps k z hm _ fun b v S2 H2 s2 g2 p2 r hm2 => ⟨b, r, q b S2 H2 s2 g2 p2 hm2⟩
theorem t_Test {m : (Bool → μ β) → μ β} (h : Ev p te σ S H m rB) : EvT p (tTest te) σ S H m := fun S1 H1 s g ps k z hm Q q =>
  h S1 H1 s g ps k z hm _ fun b v S2 H2 s2 g2 p2 r hm2 => ⟨b, r, q b S2 H2 s2 g2 p2 hm2⟩
theorem EvT.go {m : (Bool → μ β) → μ β} {S1 H1 : Hp} (h : EvT p tt σ S H m) (g : Gm p.M S H S1 H1) : EvT p tt σ S1 H1 m := fun S2 H2 s g2 ps => h S2 H2 s (g.tr g2) ps
theorem t_and {tu : TT} {m : (Bool → μ β) → μ β} {m' : (Bool → μ Bool) → μ Bool} (h : EvT p tt σ S H m) (h' : EvT p tu σ S H m') : EvT p (tAnd tt tu) σ S H (fun k => m fun a => (if a = true then m' pure else pure false) >>= k) := fun S1 H1 s g ps k z hm Q q =>
  h S1 H1 s g ps _ z hm _ fun b S2 H2 s2 g2 p2 hm2 => by
    obtain ⟨c, s3, e1, e2⟩ := run_of_bind hm2
    cases b with
    | true => exact iteT (h' S2 H2 s2 (g.tr g2) p2 pure (c, s3) (by simpa using e1) Q fun d S3 H3 s4 g3 p3 hm3 => by cases run_of_pure hm3; exact q _ S3 H3 _ (g2.tr g3) p3 e2)
    | false => exact iteF (by cases run_of_pure (show Mir.run (pure false : μ Bool) s2 = some (c, s3) by simpa using e1); exact q _ S2 H2 _ g2 p2 e2)
theorem t_or {tu : TT} {m : (Bool → μ β) → μ β} {m' : (Bool → μ Bool) → μ Bool} (h : EvT p tt σ S H m) (h' : EvT p tu σ S H m') : EvT p (tOr tt tu) σ S H (fun k => m fun a => (if a = true then pure true else m' pure) >>= k) := fun S1 H1 s g ps k z hm Q q =>
  h S1 H1 s g ps _ z hm _ fun b S2 H2 s2 g2 p2 hm2 => by
    obtain ⟨c, s3, e1, e2⟩ := run_of_bind hm2
    cases b with
    | true => exact iteT (by cases run_of_pure (show Mir.run (pure true : μ Bool) s2 = some (c, s3) by simpa using e1); exact q _ S2 H2 _ g2 p2 e2)
    | false => exact iteF (h' S2 H2 s2 (g.tr g2) p2 pure (c, s3) (by simpa using e1) Q fun d S3 H3 s4 g3 p3 hm3 => by cases run_of_pure hm3; exact q _ S3 H3 _ (g2.tr g3) p3 e2)
/-- the second one is asked without a condition -/
theorem t_andT {tu : TT} {m : (Bool → μ β) → μ β} {c : Bool} (h : EvT p tt σ S H m) (h' : EvT (μ := μ) (β := β) p tu σ S H (fun k => k c)) : EvT p (tAnd tt tu) σ S H (fun k => m fun a => k (a && c)) := fun S1 H1 s g ps k z hm Q q =>
  h S1 H1 s g ps _ z hm _ fun b S2 H2 s2 g2 p2 hm2 => by
    cases b with
    | true => exact iteT (h' S2 H2 s2 (g.tr g2) p2 k z (by simpa using hm2) Q fun d S3 H3 s3 g3 p3 hm3 => q d S3 H3 s3 (g2.tr g3) p3 hm3)
    | false => exact iteF (q false S2 H2 s2 g2 p2 (by simpa using hm2))
theorem t_orT {tu : TT} {m : (Bool → μ β) → μ β} {c : Bool} (h : EvT p tt σ S H m) (h' : EvT (μ := μ) (β := β) p tu σ S H (fun k => k c)) : EvT p (tOr tt tu) σ S H (fun k => m fun a => k (a || c)) := fun S1 H1 s g ps k z hm Q q =>
  h S1 H1 s g ps _ z hm _ fun b S2 H2 s2 g2 p2 hm2 => by
    cases b with
    | true => exact iteT (q true S2 H2 s2 g2 p2 (by simpa using hm2))
    | false => exact iteF (h' S2 H2 s2 (g.tr g2) p2 k z (by simpa using hm2) Q fun d S3 H3 s3 g3 p3 hm3 => q d S3 H3 s3 (g2.tr g3) p3 hm3)
theorem t_not {m : (Bool → μ β) → μ β} (h : EvT p tt σ S H m) : EvT p (tNot tt) σ S H (fun k => m fun a => k (!a)) := fun S1 H1 s g ps k z hm Q q =>
  h S1 H1 s g ps _ z hm _ fun b S2 H2 s2 g2 p2 hm2 => q (!b) S2 H2 s2 g2 p2 hm2
theorem e_and {m : (Bool → μ β) → μ β} {m' : (Bool → μ Bool) → μ Bool} (h : Ev p ta σ S H m rB) (h' : Ev p tb σ S H m' rB) : Ev p (tAndV ta tb) σ S H (fun k => m fun a => (if a = true then m' pure else pure false) >>= k) rB := fun S1 H1 s g ps k z hm Q q =>
  h S1 H1 s g ps _ z hm _ fun b v S2 H2 s2 g2 p2 r hm2 => ⟨b, r, by
    obtain ⟨c, s3, e1, e2⟩ := run_of_bind hm2
    cases b with
    | true => exact iteT (h' S2 H2 s2 (g.tr g2) p2 pure (c, s3) (by simpa using e1) Q fun d u S3 H3 s4 g3 p3 r3 hm3 => by cases run_of_pure hm3; exact q _ u S3 H3 _ (g2.tr g3) p3 r3 e2)
    | false => exact iteF (by cases run_of_pure (show Mir.run (pure false : μ Bool) s2 = some (c, s3) by simpa using e1); exact q _ _ S2 H2 _ g2 p2 rfl e2)⟩
theorem e_or {m : (Bool → μ β) → μ β} {m' : (Bool → μ Bool) → μ Bool} (h : Ev p ta σ S H m rB) (h' : Ev p tb σ S H m' rB) : Ev p (tOrV ta tb) σ S H (fun k => m fun a => (if a = true then pure true else m' pure) >>= k) rB := fun S1 H1 s g ps k z hm Q q =>
  h S1 H1 s g ps _ z hm _ fun b v S2 H2 s2 g2 p2 r hm2 => ⟨b, r, by
    obtain ⟨c, s3, e1, e2⟩ := run_of_bind hm2
    cases b with
    | true => exact iteT (by cases run_of_pure (show Mir.run (pure true : μ Bool) s2 = some (c, s3) by simpa using e1); exact q _ _ S2 H2 _ g2 p2 rfl e2)
    | false => exact iteF (h' S2 H2 s2 (g.tr g2) p2 pure (c, s3) (by simpa using e1) Q fun d u S3 H3 s4 g3 p3 r3 hm3 => by cases run_of_pure hm3; exact q _ u S3 H3 _ (g2.tr g3) p3 r3 e2)⟩
theorem e_andT {m : (Bool → μ β) → μ β} {c : Bool} (h : Ev p ta σ S H m rB) (h' : Ev (μ := μ) (β := β) p tb σ S H (fun k => k c) rB) : Ev p (tAndV ta tb) σ S H (fun k => m fun a => k (a && c)) rB := fun S1 H1 s g ps k z hm Q q =>
  h S1 H1 s g ps _ z hm _ fun b v S2 H2 s2 g2 p2 r hm2 => ⟨b, r, by
    cases b with
    | true => exact iteT (h' S2 H2 s2 (g.tr g2) p2 k z (by simpa using hm2) Q fun d u S3 H3 s3 g3 p3 r3 hm3 => q d u S3 H3 s3 (g2.tr g3) p3 r3 hm3)
    | false => exact iteF (q false _ S2 H2 s2 g2 p2 rfl (by simpa using hm2))⟩
theorem e_orT {m : (Bool → μ β) → μ β} {c : Bool} (h : Ev p ta σ S H m rB) (h' : Ev (μ := μ) (β := β) p tb σ S H (fun k => k c) rB) : Ev p (tOrV ta tb) σ S H (fun k => m fun a => k (a || c)) rB := fun S1 H1 s g ps k z hm Q q =>
  h S1 H1 s g ps _ z hm _ fun b v S2 H2 s2 g2 p2 r hm2 => ⟨b, r, by
    cases b with
    | true => exact iteT (q true _ S2 H2 s2 g2 p2 rfl (by simpa using hm2))
    | false => exact iteF (h' S2 H2 s2 (g.tr g2) p2 k z (by simpa using hm2) Q fun d u S3 H3 s3 g3 p3 r3 hm3 => q d u S3 H3 s3 (g2.tr g3) p3 r3 hm3)⟩
theorem e_not {m : (Bool → μ β) → μ β} (h : Ev p ta σ S H m rB) : Ev p (tNotV ta) σ S H (fun k => m fun a => k (!a)) rB := fun S1 H1 s g ps k z hm Q q =>
  h S1 H1 s g ps _ z hm _ fun b v S2 H2 s2 g2 p2 r hm2 => ⟨b, r, q _ _ S2 H2 s2 g2 p2 rfl hm2⟩
/-- a if t else b: the ways meet again -/
theorem e_if {mt : (Bool → μ β) → μ β} {ma mb : (α → μ α) → μ α} {R : Rp α} (h : EvT p tt σ S H mt) (h1 : Ev p ta σ S H ma R) (h2 : Ev p tb σ S H mb R) :
    Ev p (tIf tt ta tb) σ S H (fun k => mt fun b => (if b = true then ma pure else mb pure) >>= k) R := fun S1 H1 s g ps k z hm Q q =>
  h S1 H1 s g ps _ z hm _ fun b S2 H2 s2 g2 p2 hm2 => by
    obtain ⟨a, s3, e1, e2⟩ := run_of_bind hm2
    cases b with
    | true => exact iteT (h1 S2 H2 s2 (g.tr g2) p2 pure (a, s3) (by simpa using e1) Q fun c u S3 H3 s4 g3 p3 r3 hm3 => by cases run_of_pure hm3; exact q _ u S3 H3 _ (g2.tr g3) p3 r3 e2)
    | false => exact iteF (h2 S2 H2 s2 (g.tr g2) p2 pure (a, s3) (by simpa using e1) Q fun c u S3 H3 s4 g3 p3 r3 hm3 => by cases run_of_pure hm3; exact q _ u S3 H3 _ (g2.tr g3) p3 r3 e2)
/-- both ways are asked without a condition -/
theorem e_ifT {mt : (Bool → μ β) → μ β} {x y : α} {R : Rp α} (h : EvT p tt σ S H mt) (h1 : Ev (μ := μ) (β := β) p ta σ S H (fun k => k x) R) (h2 : Ev (μ := μ) (β := β) p tb σ S H (fun k => k y) R) :
    Ev p (tIf tt ta tb) σ S H (fun k => mt fun b => k (if b = true then x else y)) R := fun S1 H1 s g ps k z hm Q q =>
  h S1 H1 s g ps _ z hm _ fun b S2 H2 s2 g2 p2 hm2 => by
    cases b with
    | true => exact iteT (h1 S2 H2 s2 (g.tr g2) p2 k z (by simpa using hm2) Q fun c u S3 H3 s4 g3 p3 r3 hm3 => q _ u S3 H3 _ (g2.tr g3) p3 r3 hm3)
    | false => exact iteF (h2 S2 H2 s2 (g.tr g2) p2 k z (by simpa using hm2) Q fun c u S3 H3 s4 g3 p3 r3 hm3 => q _ u S3 H3 _ (g2.tr g3) p3 r3 hm3)
theorem l_if {mt : (Bool → μ β) → μ β} {ma mb : (α → μ α) → μ α} {A : Rq α} (h : EvT p tt σ S H mt) (h1 : EvL p ta σ S H ma A) (h2 : EvL p tb σ S H mb A) :
    EvL p (tIf tt ta tb) σ S H (fun k => mt fun b => (if b = true then ma pure else mb pure) >>= k) A := fun S1 H1 s g ps k z hm Q q =>
  h S1 H1 s g ps _ z hm _ fun b S2 H2 s2 g2 p2 hm2 => by
    obtain ⟨a, s3, e1, e2⟩ := run_of_bind hm2
    have back : ∀ {x : Addr}, H2 x = none → H1 x = none := fun {x} hx => by
      cases e : H1 x with
      | none => rfl
      | some u => obtain ⟨u', e'⟩ := g2.t x u e; rw [hx] at e'; cases e'
    cases b with
    | true => exact iteT (h1 S2 H2 s2 (g.tr g2) p2 pure (a, s3) (by simpa using e1) Q fun c x vs S3 H3 s4 g3 p3 n1 e3 n3 m3 r3 hm3 => by cases run_of_pure hm3; exact q _ x vs S3 H3 _ (g2.tr g3) p3 (back n1) e3 n3 m3 r3 e2)
    | false => exact iteF (h2 S2 H2 s2 (g.tr g2) p2 pure (a, s3) (by simpa using e1) Q fun c x vs S3 H3 s4 g3 p3 n1 e3 n3 m3 r3 hm3 => by cases run_of_pure hm3; exact q _ x vs S3 H3 _ (g2.tr g3) p3 (back n1) e3 n3 m3 r3 e2)
end
end Wk
set_option Elab.async false
set_option maxRecDepth 100000
set_option maxHeartbeats 4000000
set_option linter.all false
/-! W2: targets, statements, loops, comprehensions -/
namespace Wk
open PySem L2
open PyProof.Rows hiding St
section
variable {μ : Type → Type} {τ : Type} [Mir μ τ] {α β γ δ ζ : Type} {p : Pt τ} {σ : St} {S H S0 H0 : Hp} {te ta tb : TE} {tt : TT} {L : List (Addr × HO)} {K : PySem.W.Frag} {tz tu tw : TS} {D : Ends} {s : τ} {z : β × τ}

/-! ### targets: what an item is, how the slots then stand -/
def Tg (g : TG) (R : Rp α) (P : α → St → St → Hp → Prop) : Prop := ∀ a v σ S H (Q : St → Hp → Prop), Ex S H → R a v S → (∀ σ', P a σ σ' S → Q σ' H) → g v σ H Q
def pN (j : Nat) (R : Rp α) : α → St → St → Hp → Prop := fun a σ σ' S => ∃ v, σ' = σ.set j (some v) ∧ R a v S
theorem g_nm {j : Nat} {R : Rp α} : Tg (gName j) R (pN j R) := fun _ v _ _ _ _ _ r q => q _ ⟨v, rfl, r⟩
/-- the items of a tuple, one after another -/
def TgQ (n : Nat) (g : TGs) (A : Rq α) (P : α → St → St → Hp → Prop) : Prop := ∀ a vs σ S H (Q : St → Hp → Prop), Ex S H → A a vs S → vs.length = n ∧ ((∀ σ', P a σ σ' S → Q σ' H) → g vs σ H Q)
theorem gq_one {g : TG} {R : Rp α} {P : α → St → St → Hp → Prop} (h : Tg g R P) : TgQ 1 (gCons g gNil) (aOne R) P := fun a vs σ S H Q e ⟨v, e1, r⟩ => by
  subst e1
  exact ⟨rfl, fun q => ⟨v, [], rfl, h a v σ S H _ e r fun σ' p' => ⟨rfl, q σ' p'⟩⟩⟩
theorem gq_cons {n : Nat} {g : TG} {gs : TGs} {R : Rp α} {A : Rq γ} {P : α → St → St → Hp → Prop} {P' : γ → St → St → Hp → Prop} (h : Tg g R P) (h' : TgQ n gs A P') :
    TgQ (n + 1) (gCons g gs) (aCons R A) (fun x σ σ2 S => ∃ σ1, P x.1 σ σ1 S ∧ P' x.2 σ1 σ2 S) := fun a vs σ S H Q e ⟨v, r, e1, h1, h2⟩ => by
  subst e1
  refine ⟨congrArg Nat.succ (h' a.2 r σ S H Q e h2).1, fun q => ⟨v, r, rfl, h a.1 v σ S H _ e h1 fun σ1 p1 => (h' a.2 r σ1 S H Q e h2).2 fun σ2 p2 => q σ2 ⟨σ1, p1, p2⟩⟩⟩
theorem g_tp {n : Nat} {gs : TGs} {A : Rq α} {P : α → St → St → Hp → Prop} (h : TgQ n gs A P) : Tg (gTup K n gs) (rT K A) P := fun a v σ S H Q e ⟨x, vs, e1, h1, h2⟩ q => by
  subst e1
  exact ⟨x, vs, rfl, sqT_ex e h1, (h a vs σ S H Q e h2).1, (h a vs σ S H Q e h2).2 q⟩

/-- what the slots are told stays told -/
def PMo (P : α → St → St → Hp → Prop) : Prop := ∀ x σ σ' S1 S2, Ex S1 S2 → P x σ σ' S1 → P x σ σ' S2
theorem pm_nm {j : Nat} {R : Rp α} [Mo R] : PMo (pN j R) := fun _ _ _ _ _ e ⟨v, h, r⟩ => ⟨v, h, Mo.mo e r⟩
theorem pm_cons {P : α → St → St → Hp → Prop} {P' : γ → St → St → Hp → Prop} (h : PMo P) (h' : PMo P') : PMo (fun (x : α × γ) σ σ2 S => ∃ σ1, P x.1 σ σ1 S ∧ P' x.2 σ1 σ2 S) :=
  fun _ _ _ _ _ e ⟨σ1, a, b⟩ => ⟨σ1, h _ _ _ _ _ e a, h' _ _ _ _ _ e b⟩

/-! ### statements -/
theorem nx_done (h : tz D σ H) : tNext { D with nx := tz D } σ H := h
theorem q_set {i : Nat} {m : (α → μ β) → μ β} {R : Rp α} {k : α → μ β} (σ' : V → St) (hσ : ∀ v, σ.set i (some v) = σ' v) (w : Wd p S0 H0 S H L) (ps : PotAt p s S H) (h : Ev p te σ S H m R) (hm : Mir.run (m fun a => bnd a k) s = some z)
    (nx : ∀ a v S1 H1 s1, Wd p S0 H0 S1 H1 L → PotAt p s1 S1 H1 → Gm p.M S H S1 H1 → R a v S1 → Mir.run (k a) s1 = some z → tz D (σ' v) H1) : tSeq (tAsg te (gName i)) tz D σ H :=
  h S H s (Gm.rf w.i) ps _ z hm _ fun a v S1 H1 s1 g p1 r hm1 => by
    have q := nx a v S1 H1 s1 (w.go g) p1 g r hm1
    rw [← hσ v] at q
    exact q
theorem q_setL {i : Nat} {m : (α → μ β) → μ β} {A : Rq α} {k : α → μ β} (σ' : V → St) (hσ : ∀ v, σ.set i (some v) = σ' v) (w : Wd p S0 H0 S H L) (ps : PotAt p s S H) (h : EvL p te σ S H m A) (hm : Mir.run (m fun a => bnd a k) s = some z)
    (nx : ∀ a q vs S1 H1 s1, Wd p S0 H0 S1 H1 ((q, .lst vs) :: L) → PotAt p s1 S1 H1 → Gm p.M S H S1 H1 → A a vs S1 → Mir.run (k a) s1 = some z → tz D (σ' (.ref q)) H1) : tSeq (tAsg te (gName i)) tz D σ H :=
  h S H s (Gm.rf w.i) ps _ z hm _ fun a q vs S1 H1 s1 g p1 n e sn m r hm1 => by
    have q := nx a q vs S1 H1 s1 (w.add g n e sn m) p1 g r hm1
    rw [← hσ] at q
    exact q
/-- some expression is asked, what is wanted of it goes on -/
theorem x_ev {m : (α → μ β) → μ β} {R : Rp α} {k : α → μ β} {Q : VK} (w : Wd p S0 H0 S H L) (ps : PotAt p s S H) (h : Ev p te σ S H m R) (hm : Mir.run (m fun a => bnd a k) s = some z)
    (nx : ∀ a v S1 H1 s1, Wd p S0 H0 S1 H1 L → PotAt p s1 S1 H1 → Gm p.M S H S1 H1 → R a v S1 → Mir.run (k a) s1 = some z → Q v H1) : te σ H Q :=
  h S H s (Gm.rf w.i) ps _ z hm _ fun a v S1 H1 s1 g p1 r hm1 => nx a v S1 H1 s1 (w.go g) p1 g r hm1
theorem x_evL {m : (α → μ β) → μ β} {A : Rq α} {k : α → μ β} {Q : VK} (w : Wd p S0 H0 S H L) (ps : PotAt p s S H) (h : EvL p te σ S H m A) (hm : Mir.run (m fun a => bnd a k) s = some z)
    (nx : ∀ a q vs S1 H1 s1, Wd p S0 H0 S1 H1 ((q, .lst vs) :: L) → PotAt p s1 S1 H1 → Gm p.M S H S1 H1 → A a vs S1 → Mir.run (k a) s1 = some z → Q (.ref q) H1) : te σ H Q :=
  h S H s (Gm.rf w.i) ps _ z hm _ fun a q vs S1 H1 s1 g p1 n e sn m r hm1 => nx a q vs S1 H1 s1 (w.add g n e sn m) p1 g r hm1
theorem par_go {i j : Nat} {t1 t2 : TE} (h : t1 σ H fun x H1 => t2 σ H1 fun y H2 => ∃ v w, [x, y] = [v, w] ∧ tz D ((σ.set i (some v)).set j (some w)) H2) : tSeq (tPar i j (tCons t1 (tCons t2 tNil))) tz D σ H := h
theorem par_end {i j : Nat} {x y : V} (σ' : St) (hσ : (σ.set i (some x)).set j (some y) = σ') (h : tz D σ' H) : ∃ v w, [x, y] = [v, w] ∧ tz D ((σ.set i (some v)).set j (some w)) H := ⟨x, y, rfl, by rw [hσ]; exact h⟩
theorem par3_go {i j l : Nat} {t1 t2 t3 : TE} (h : t1 σ H fun x H1 => t2 σ H1 fun y H2 => t3 σ H2 fun w H3 => ∃ a b c, [x, y, w] = [a, b, c] ∧ tz D (((σ.set i (some a)).set j (some b)).set l (some c)) H3) : tSeq (tPar3 i j l (tCons t1 (tCons t2 (tCons t3 tNil)))) tz D σ H := h
theorem par3_end {i j l : Nat} {x y w : V} (σ' : St) (hσ : ((σ.set i (some x)).set j (some y)).set l (some w) = σ') (h : tz D σ' H) : ∃ a b c, [x, y, w] = [a, b, c] ∧ tz D (((σ.set i (some a)).set j (some b)).set l (some c)) H := ⟨x, y, w, rfl, by rw [hσ]; exact h⟩
/-- a, b, .. = x, y, ..: the tuple is made -/
def gSeq : List Nat → TGs
  | [] => gNil
  | i :: is => gCons (gName i) (gSeq is)
def setAll : St → List Nat → List V → St
  | σ, i :: is, v :: vs => setAll (σ.set i (some v)) is vs
  | σ, _, _ => σ
theorem gSeq_go {Q : St → Hp → Prop} : ∀ (is : List Nat) (vs : List V) (σ : St) (H : Hp), is.length = vs.length → Q (setAll σ is vs) H → gSeq is vs σ H Q
  | [], [], σ, H, _, h => ⟨rfl, h⟩
  | i :: is, v :: vs, σ, H, e, h => ⟨v, vs, rfl, gSeq_go is vs (σ.set i (some v)) H (by simpa using e) h⟩
  | [], _ :: _, _, _, e, _ => by simp at e
  | _ :: _, [], _, _, e, _ => by simp at e
theorem tup_end {is : List Nat} {vs : List V} {Q : St → Hp → Prop} (σ' : St) (w : Wd p S0 H0 S H L) (ps : PotAt p s S H) (hl : is.length = vs.length) (hz : vs.length ≤ 1000) (hσ : setAll σ is vs = σ')
    (nx : ∀ S1 H1, Wd p S0 H0 S1 H1 L → PotAt p s S1 H1 → Gm p.M S H S1 H1 → Q σ' H1) :
    vs.length ≤ sizeLine ∧ ∀ x, H x = none → gTup K is.length (gSeq is) (.ref x) σ (upd H x (.tup vs)) Q :=
  ⟨Nat.le_trans hz (by decide), fun x hx => ⟨x, vs, rfl, .of upd_same, hl.symm, gSeq_go is vs σ _ hl (by
    rw [hσ]
    exact nx (upd S x (.tup vs)) _ (w.go (Gm.new w.i hx)) (ps.go (Gm.new w.i hx)) (Gm.new w.i hx))⟩⟩
/-- a, b = e -/
theorem q_unp {g : TG} {m : (α → μ β) → μ β} {R : Rp α} {P : α → St → St → Hp → Prop} {k : α → μ β} (w : Wd p S0 H0 S H L) (ps : PotAt p s S H) (h : Ev p te σ S H m R) (hg : Tg g R P) (hm : Mir.run (m fun a => bnd a k) s = some z)
    (nx : ∀ a σ' S1 H1 s1, Wd p S0 H0 S1 H1 L → PotAt p s1 S1 H1 → Gm p.M S H S1 H1 → P a σ σ' S1 → Mir.run (k a) s1 = some z → tz D σ' H1) : tSeq (tAsg te g) tz D σ H :=
  h S H s (Gm.rf w.i) ps _ z hm _ fun a v S1 H1 s1 g1 p1 r hm1 => hg a v σ S1 H1 _ g1.i r fun σ' hp => nx a σ' S1 H1 s1 (w.go g1) p1 g1 hp hm1
/-- a, b = x, y of two plain local names -/
theorem q_par {i j : Nat} {ta : TA} {m : (α × γ → μ β) → μ β} {R : Rp α} {R' : Rp γ} {k : α → γ → μ β} (w : Wd p S0 H0 S H L) (ps : PotAt p s S H) (h : EvA p ta σ S H m (aCons R (aOne R'))) (hm : Mir.run (m fun a => bnd a.1 fun x => bnd a.2 fun y => k x y) s = some z)
    (nx : ∀ a b v u S1 H1 s1, Wd p S0 H0 S1 H1 L → PotAt p s1 S1 H1 → Gm p.M S H S1 H1 → R a v S1 → R' b u S1 → Mir.run (k a b) s1 = some z → tz D ((σ.set i (some v)).set j (some u)) H1) : tSeq (tPar i j ta) tz D σ H :=
  h S H s (Gm.rf w.i) ps _ z hm _ fun a vs S1 H1 s1 g p1 r hm1 => by
    obtain ⟨v, r, e1, r1, u, e2, r2⟩ := r
    subst e2
    subst e1
    exact ⟨v, u, rfl, nx a.1 a.2 v u S1 H1 s1 (w.go g) p1 g r1 r2 hm1⟩
theorem q_drop {m : (α → μ β) → μ β} {R : Rp α} {k : μ β} (w : Wd p S0 H0 S H L) (ps : PotAt p s S H) (h : Ev p te σ S H m R) (hm : Mir.run (m fun _ => k) s = some z)
    (nx : ∀ S1 H1 s1, Wd p S0 H0 S1 H1 L → PotAt p s1 S1 H1 → Gm p.M S H S1 H1 → Mir.run k s1 = some z → tz D σ H1) : tSeq (tDrop te) tz D σ H :=
  h S H s (Gm.rf w.i) ps _ z hm _ fun a v S1 H1 s1 g p1 r hm1 => nx S1 H1 s1 (w.go g) p1 g hm1
theorem q_ret {m : (α → μ β) → μ β} {R : Rp α} {k : α → μ β} (w : Wd p S0 H0 S H L) (ps : PotAt p s S H) (h : Ev p te σ S H m R) (hm : Mir.run (m fun a => bnd a k) s = some z)
    (nx : ∀ a v S1 H1 s1, Wd p S0 H0 S1 H1 L → PotAt p s1 S1 H1 → Gm p.M S H S1 H1 → R a v S1 → Mir.run (k a) s1 = some z → D.rt v H1) : tSeq (tRet te) tz D σ H :=
  h S H s (Gm.rf w.i) ps _ z hm _ fun a v S1 H1 s1 g p1 r hm1 => nx a v S1 H1 s1 (w.go g) p1 g r hm1
/-- a new list is handed back -/
theorem q_retL {m : (α → μ β) → μ β} {A : Rq α} {k : α → μ β} (w : Wd p S0 H0 S H L) (ps : PotAt p s S H) (h : EvL p te σ S H m A) (hm : Mir.run (m fun a => bnd a k) s = some z)
    (nx : ∀ a q vs S1 H1 s1, Wd p S0 H0 S1 H1 ((q, .lst vs) :: L) → PotAt p s1 S1 H1 → Gm p.M S H S1 H1 → A a vs S1 → Mir.run (k a) s1 = some z → D.rt (.ref q) H1) : tSeq (tRet te) tz D σ H :=
  h S H s (Gm.rf w.i) ps _ z hm _ fun a q vs S1 H1 s1 g p1 n e sn m r hm1 => nx a q vs S1 H1 s1 (w.add g n e sn m) p1 g r hm1
theorem q_retO {i : Nat} {q : Addr} {a : α} {k : α → μ β} (e : σ[i]? = some (some (.ref q))) (hm : Mir.run (bnd a k) s = some z)
    (nx : Mir.run (k a) s = some z → D.rt (.ref q) H) : tSeq (tRet (tVar i)) tz D σ H := ⟨.ref q, e, nx hm⟩
theorem q_retN (h : D.rt .non H) : tSeq tRetN tz D σ H := h
/-- if: each way goes on by itself -/
theorem q_if {m : (Bool → μ β) → μ β} {A B : μ β} (w : Wd p S0 H0 S H L) (ps : PotAt p s S H) (h : EvT p tt σ S H m) (hm : Mir.run (m fun b => if b = true then A else B) s = some z)
    (h1 : ∀ S1 H1 s1, Wd p S0 H0 S1 H1 L → PotAt p s1 S1 H1 → Gm p.M S H S1 H1 → Mir.run A s1 = some z → tu { D with nx := tz D } σ H1)
    (h2 : ∀ S1 H1 s1, Wd p S0 H0 S1 H1 L → PotAt p s1 S1 H1 → Gm p.M S H S1 H1 → Mir.run B s1 = some z → tw { D with nx := tz D } σ H1) : tSeq (tIfS tt tu tw) tz D σ H :=
  h S H s (Gm.rf w.i) ps _ z hm _ fun b S1 H1 s1 g p1 hm1 => by
    cases b with
    | true => exact iteT (h1 S1 H1 s1 (w.go g) p1 g (by simpa using hm1))
    | false => exact iteF (h2 S1 H1 s1 (w.go g) p1 g (by simpa using hm1))
/-- if: the ways meet again with what they changed -/
theorem q_ifj {m : (Bool → μ β) → μ β} {A B : μ ζ} {k : ζ → μ β} (Iv : ζ → St → Hp → Hp → τ → Prop) (w : Wd p S0 H0 S H L) (ps : PotAt p s S H) (h : EvT p tt σ S H m) (hm : Mir.run (m fun b => (if b = true then A else B) >>= k) s = some z)
    (h1 : ∀ S1 H1 s1 st s2 (D' : Ends), Wd p S0 H0 S1 H1 L → PotAt p s1 S1 H1 → Gm p.M S H S1 H1 → Mir.run A s1 = some (st, s2) → (∀ σ' S' H', Iv st σ' S' H' s2 → D'.nx σ' H') → tu D' σ H1)
    (h2 : ∀ S1 H1 s1 st s2 (D' : Ends), Wd p S0 H0 S1 H1 L → PotAt p s1 S1 H1 → Gm p.M S H S1 H1 → Mir.run B s1 = some (st, s2) → (∀ σ' S' H', Iv st σ' S' H' s2 → D'.nx σ' H') → tw D' σ H1)
    (nx : ∀ st σ' S1 H1 s1, Iv st σ' S1 H1 s1 → Mir.run (k st) s1 = some z → tz D σ' H1) : tSeq (tIfS tt tu tw) tz D σ H :=
  h S H s (Gm.rf w.i) ps _ z hm _ fun b S1 H1 s1 g p1 hm1 => by
    obtain ⟨st, s2, e1, e2⟩ := run_of_bind hm1
    cases b with
    | true => exact iteT (h1 S1 H1 s1 st s2 _ (w.go g) p1 g (by simpa using e1) fun σ' S' H' iv => nx st σ' S' H' s2 iv e2)
    | false => exact iteF (h2 S1 H1 s1 st s2 _ (w.go g) p1 g (by simpa using e1) fun σ' S' H' iv => nx st σ' S' H' s2 iv e2)

theorem tup2_go {t1 t2 : TE} {g : TG} (h : t1 σ H fun x1 H1 => t2 σ H1 fun x2 H2 => [x1, x2].length ≤ sizeLine ∧ ∀ y, H2 y = none → g (.ref y) σ (upd H2 y (.tup [x1, x2])) (tz D)) : tSeq (tAsg (tTup (tCons t1 (tCons t2 tNil))) g) tz D σ H := h
theorem tup3_go {t1 t2 t3 : TE} {g : TG} (h : t1 σ H fun x1 H1 => t2 σ H1 fun x2 H2 => t3 σ H2 fun x3 H3 => [x1, x2, x3].length ≤ sizeLine ∧ ∀ y, H3 y = none → g (.ref y) σ (upd H3 y (.tup [x1, x2, x3])) (tz D)) : tSeq (tAsg (tTup (tCons t1 (tCons t2 (tCons t3 tNil)))) g) tz D σ H := h
theorem tup4_go {t1 t2 t3 t4 : TE} {g : TG} (h : t1 σ H fun x1 H1 => t2 σ H1 fun x2 H2 => t3 σ H2 fun x3 H3 => t4 σ H3 fun x4 H4 => [x1, x2, x3, x4].length ≤ sizeLine ∧ ∀ y, H4 y = none → g (.ref y) σ (upd H4 y (.tup [x1, x2, x3, x4])) (tz D)) : tSeq (tAsg (tTup (tCons t1 (tCons t2 (tCons t3 (tCons t4 tNil))))) g) tz D σ H := h
theorem tup5_go {t1 t2 t3 t4 t5 : TE} {g : TG} (h : t1 σ H fun x1 H1 => t2 σ H1 fun x2 H2 => t3 σ H2 fun x3 H3 => t4 σ H3 fun x4 H4 => t5 σ H4 fun x5 H5 => [x1, x2, x3, x4, x5].length ≤ sizeLine ∧ ∀ y, H5 y = none → g (.ref y) σ (upd H5 y (.tup [x1, x2, x3, x4, x5])) (tz D)) : tSeq (tAsg (tTup (tCons t1 (tCons t2 (tCons t3 (tCons t4 (tCons t5 tNil)))))) g) tz D σ H := h
theorem tup6_go {t1 t2 t3 t4 t5 t6 : TE} {g : TG} (h : t1 σ H fun x1 H1 => t2 σ H1 fun x2 H2 => t3 σ H2 fun x3 H3 => t4 σ H3 fun x4 H4 => t5 σ H4 fun x5 H5 => t6 σ H5 fun x6 H6 => [x1, x2, x3, x4, x5, x6].length ≤ sizeLine ∧ ∀ y, H6 y = none → g (.ref y) σ (upd H6 y (.tup [x1, x2, x3, x4, x5, x6])) (tz D)) : tSeq (tAsg (tTup (tCons t1 (tCons t2 (tCons t3 (tCons t4 (tCons t5 (tCons t6 tNil))))))) g) tz D σ H := h
theorem tup7_go {t1 t2 t3 t4 t5 t6 t7 : TE} {g : TG} (h : t1 σ H fun x1 H1 => t2 σ H1 fun x2 H2 => t3 σ H2 fun x3 H3 => t4 σ H3 fun x4 H4 => t5 σ H4 fun x5 H5 => t6 σ H5 fun x6 H6 => t7 σ H6 fun x7 H7 => [x1, x2, x3, x4, x5, x6, x7].length ≤ sizeLine ∧ ∀ y, H7 y = none → g (.ref y) σ (upd H7 y (.tup [x1, x2, x3, x4, x5, x6, x7])) (tz D)) : tSeq (tAsg (tTup (tCons t1 (tCons t2 (tCons t3 (tCons t4 (tCons t5 (tCons t6 (tCons t7 tNil)))))))) g) tz D σ H := h
theorem tup8_go {t1 t2 t3 t4 t5 t6 t7 t8 : TE} {g : TG} (h : t1 σ H fun x1 H1 => t2 σ H1 fun x2 H2 => t3 σ H2 fun x3 H3 => t4 σ H3 fun x4 H4 => t5 σ H4 fun x5 H5 => t6 σ H5 fun x6 H6 => t7 σ H6 fun x7 H7 => t8 σ H7 fun x8 H8 => [x1, x2, x3, x4, x5, x6, x7, x8].length ≤ sizeLine ∧ ∀ y, H8 y = none → g (.ref y) σ (upd H8 y (.tup [x1, x2, x3, x4, x5, x6, x7, x8])) (tz D)) : tSeq (tAsg (tTup (tCons t1 (tCons t2 (tCons t3 (tCons t4 (tCons t5 (tCons t6 (tCons t7 (tCons t8 tNil))))))))) g) tz D σ H := h

/-! ### lists of one's own are changed -/
theorem ty_own {x : Addr} {vs : List V} (h : H x = some (.lst vs)) : tyV K "list" (.ref x) H := .inl ⟨rfl, _, .of h⟩
theorem q_app {i j : Nat} {q : Addr} {vs : List V} {xs : List α} {m : (α → μ β) → μ β} {R : Rp α} [Mo R] {k : List α → μ β} (w : Wd p S0 H0 S H L) (ps : PotAt p s S H) (hj : L[j]? = some (q, .lst vs)) (e : σ[i]? = some (some (.ref q))) (ha : All R S xs vs) (h : Ev p te σ S H m R)
    (hm : Mir.run (m fun a => Mir.lft (grd (xs.length < 16000000)) >>= fun _ => bnd (xs ++ [a]) k) s = some z)
    (nx : ∀ ys us S1 H1 s1, Wd p S0 H0 S1 H1 (L.set j (q, .lst us)) → PotAt p s1 S1 H1 → Ex S S1 → All R S1 ys us → Mir.run (k ys) s1 = some z → tz D σ H1) : tSeq (tDrop (tBM K "list" rAppend (tVar i) (tCons te tNil))) tz D σ H :=
  ⟨.ref q, e, ty_own (w.at hj).1, h S H s (Gm.rf w.i) ps _ z hm _ fun a v S1 H1 s1 g p1 r hm1 => by
    obtain ⟨_, e1, hm1⟩ := run_of_lft hm1
    have hl := grd_of e1
    have w1 := w.go g
    refine ⟨q, vs, v, rfl, rfl, (w1.at hj).1, by rw [← ha.len, sizeLine_eq]; omega, ?_⟩
    exact nx (xs ++ [a]) (vs ++ [v]) S1 _ s1 (w1.put hj) (p1.put (w.nmAt hj)) g.s ((ha.mo g.s).app (.cons r .nil)) hm1⟩
theorem q_ext {i j : Nat} {q : Addr} {vs : List V} {xs : List α} {m : (List α → μ β) → μ β} {R : Rp α} [Mo R] {k : List α → μ β} (w : Wd p S0 H0 S H L) (ps : PotAt p s S H) (hj : L[j]? = some (q, .lst vs)) (e : σ[i]? = some (some (.ref q))) (ha : All R S xs vs) (h : EvL p te σ S H m (aAll R))
    (hm : Mir.run (m fun a => Mir.lft (grd (xs.length + a.length ≤ 16000000)) >>= fun _ => bnd (xs ++ a) k) s = some z)
    (nx : ∀ ys us S1 H1 s1, Wd p S0 H0 S1 H1 (L.set j (q, .lst us)) → PotAt p s1 S1 H1 → Ex S S1 → All R S1 ys us → Mir.run (k ys) s1 = some z → tz D σ H1) : tSeq (tDrop (tBM K "list" rExtend (tVar i) (tCons te tNil))) tz D σ H :=
  ⟨.ref q, e, ty_own (w.at hj).1, h S H s (Gm.rf w.i) ps _ z hm _ fun a x us S1 H1 s1 g p1 n1 e2 n2 m2 r hm1 => by
    obtain ⟨_, e1, hm1⟩ := run_of_lft hm1
    have hl := grd_of e1
    have w1 := w.go g
    have hr : All R S1 a us := r
    refine ⟨q, x, vs, us, rfl, rfl, (w1.at hj).1, e2, by rw [← ha.len, ← hr.len, sizeLine_eq]; omega, ?_⟩
    exact nx (xs ++ a) (vs ++ us) S1 _ s1 (w1.put hj) (p1.put (w.nmAt hj)) g.s ((ha.mo g.s).app hr) hm1⟩
/-- xs[i] = e -/
theorem q_put {i j : Nat} {q : Addr} {vs : List V} {xs : List α} {m : (α → μ β) → μ β} {mi : (Int → μ β) → μ β} {R : Rp α} [Mo R] {k : List α → μ β} (w : Wd p S0 H0 S H L) (ps : PotAt p s S H) (hj : L[j]? = some (q, .lst vs)) (e : σ[i]? = some (some (.ref q))) (ha : All R S xs vs) (h : Ev p te σ S H m R) (hi : Ev p ta σ S H mi rI)
    (hm : Mir.run (m fun a => mi fun n => Mir.lft (ixN xs.length n) >>= fun o => bnd (xs.set o a) k) s = some z)
    (nx : ∀ ys us S1 H1 s1, Wd p S0 H0 S1 H1 (L.set j (q, .lst us)) → PotAt p s1 S1 H1 → Ex S S1 → All R S1 ys us → Mir.run (k ys) s1 = some z → tz D σ H1) : tSeq (tAsg te (gSub (tVar i) ta rSetL)) tz D σ H :=
  h S H s (Gm.rf w.i) ps _ z hm _ fun a v S1 H1 s1 g p1 r hm1 => ⟨.ref q, e, hi S1 H1 s1 g p1 _ z hm1 _ fun n u S2 H2 s2 g2 p2 r2 hm2 => by
    obtain ⟨o, e1, hm2⟩ := run_of_lft hm2
    have w2 := (w.go g).go g2
    cases (show u = .int n from r2)
    refine ⟨q, vs, n, o, rfl, rfl, (w2.at hj).1, by rw [← ha.len]; exact e1, ?_⟩
    exact nx (xs.set o a) (vs.set o v) S2 _ s2 (w2.put hj) (p2.put (w.nmAt hj)) (g.s.tr g2.s) ((ha.mo (g.s.tr g2.s)).set (Mo.mo g2.s r) o) hm2⟩

/-! ### while -/
def whS : Nat → (ζ → (Bool → μ ζ) → μ ζ) → (ζ → μ ζ) → ζ → μ ζ
  | 0, _, _, _ => Mir.lft none
  | n + 1, c, b, st => c st fun t => if t = true then b st >>= whS n c b else pure st
inductive Ctl (ρ ζ : Type) where
  | go (s : ζ) | brk (s : ζ) | ret (r : ρ)
def aft {ρ β : Type} : Ctl ρ ζ → (ζ → β) → (ρ → β) → β
  | .go s, f, _ => f s
  | .brk s, f, _ => f s
  | .ret r, _, g => g r
def whC {ρ : Type} : Nat → (ζ → (Bool → μ (Ctl ρ ζ)) → μ (Ctl ρ ζ)) → (ζ → μ (Ctl ρ ζ)) → ζ → μ (Ctl ρ ζ)
  | 0, _, _, _ => Mir.lft none
  | n + 1, c, b, st => c st fun t => if t = true then b st >>= fun o => match o with | .go st' => whC n c b st' | x => pure x else pure (.go st)
/-- more turns than any loop has -/
@[irreducible] def many : Nat := 10 ^ 40
theorem q_wh {n : Nat} {c : ζ → (Bool → μ ζ) → μ ζ} {b : ζ → μ ζ} {st0 : ζ} {k : ζ → μ β} (Iv : ζ → St → Hp → Hp → τ → Prop) (h0 : Iv st0 σ S H s) (hm : Mir.run (whS n c b st0 >>= k) s = some z)
    (hc : ∀ st σ1 S1 H1 s1, Iv st σ1 S1 H1 s1 → PotAt p s1 S1 H1 ∧ Ex S1 H1 ∧ EvT p tt σ1 S1 H1 (c st))
    (hg : ∀ st σ1 S1 H1 s1 S2 H2 s2, Iv st σ1 S1 H1 s1 → Gm p.M S1 H1 S2 H2 → PotAt p s2 S2 H2 → Iv st σ1 S2 H2 s2)
    (hb : ∀ st σ1 S1 H1 s1 st' s2 (D' : Ends), Iv st σ1 S1 H1 s1 → Mir.run (b st) s1 = some (st', s2) → (∀ σ' S' H', Iv st' σ' S' H' s2 → D'.nx σ' H' ∧ D'.ct σ' H') → tu D' σ1 H1)
    (nx : ∀ st σ1 S1 H1 s1, Iv st σ1 S1 H1 s1 → Mir.run (k st) s1 = some z → tz D σ1 H1) : tSeq (tWhile tt tu) tz D σ H := by
  obtain ⟨stf, sf, e1, e2⟩ := run_of_bind hm
  refine ⟨fun m σ H => ∃ st S s, Iv st σ S H s ∧ Mir.run (whS m c b st) s = some (stf, sf), ⟨n, st0, S, s, h0, e1⟩, ?_⟩
  rintro m σ1 H1 ⟨st, S1, s1, iv, e⟩
  obtain ⟨p1, x1, t1⟩ := hc st σ1 S1 H1 s1 iv
  cases m with
  | zero =>
    exfalso
    have e' : Mir.run (Mir.lft none : μ ζ) s1 = some (stf, sf) := e
    rw [Mir.run_lft] at e'
    cases e'
  | succ m =>
    refine t1 S1 H1 s1 (Gm.rf x1) p1 _ (stf, sf) e _ fun t S2 H2 s2 g2 p2 hm2 => ?_
    have iv2 := hg st σ1 S1 H1 s1 S2 H2 s2 iv g2 p2
    cases t with
    | true =>
      obtain ⟨st', s3, e3, e4⟩ := run_of_bind (by simpa using hm2)
      refine iteT ⟨fun σ' H' => ∃ S', Iv st' σ' S' H' s3, fun σ' H' ⟨S', i'⟩ => ⟨m, Nat.lt_succ_self m, st', S', s3, i', e4⟩, ?_⟩
      exact hb st σ1 S2 H2 s2 st' s3 _ iv2 e3 fun σ' S' H' i' => ⟨⟨S', i'⟩, ⟨S', i'⟩⟩
    | false =>
      have e3 : Mir.run (pure st : μ ζ) s2 = some (stf, sf) := by simpa using hm2
      cases run_of_pure e3
      exact iteF (nx _ σ1 S2 H2 _ iv2 e2)
/-- with ways out -/
theorem q_whC {ρ : Type} {n : Nat} {c : ζ → (Bool → μ (Ctl ρ ζ)) → μ (Ctl ρ ζ)} {b : ζ → μ (Ctl ρ ζ)} {st0 : ζ} {k : Ctl ρ ζ → μ β} (Iv : ζ → St → Hp → Hp → τ → Prop) (Rt : ρ → V → Hp → τ → Prop) (h0 : Iv st0 σ S H s) (hm : Mir.run (whC n c b st0 >>= k) s = some z)
    (hc : ∀ st σ1 S1 H1 s1, Iv st σ1 S1 H1 s1 → PotAt p s1 S1 H1 ∧ Ex S1 H1 ∧ EvT p tt σ1 S1 H1 (c st))
    (hg : ∀ st σ1 S1 H1 s1 S2 H2 s2, Iv st σ1 S1 H1 s1 → Gm p.M S1 H1 S2 H2 → PotAt p s2 S2 H2 → Iv st σ1 S2 H2 s2)
    (hb : ∀ st σ1 S1 H1 s1 o s2 (D' : Ends), Iv st σ1 S1 H1 s1 → Mir.run (b st) s1 = some (o, s2) →
      (∀ st' σ' S' H', o = .go st' → Iv st' σ' S' H' s2 → D'.nx σ' H' ∧ D'.ct σ' H') → (∀ st' σ' S' H', o = .brk st' → Iv st' σ' S' H' s2 → D'.bk σ' H') → (∀ r v H', o = .ret r → Rt r v H' s2 → D'.rt v H') → tu D' σ1 H1)
    (nx : ∀ st σ1 S1 H1 s1, Iv st σ1 S1 H1 s1 → Mir.run (k (.go st)) s1 = some z ∨ Mir.run (k (.brk st)) s1 = some z → tz D σ1 H1)
    (rt : ∀ r v H1 s1, Rt r v H1 s1 → Mir.run (k (.ret r)) s1 = some z → D.rt v H1) : tSeq (tWhile tt tu) tz D σ H := by
  obtain ⟨of, sf, e1, e2⟩ := run_of_bind hm
  refine ⟨fun m σ H => ∃ st S s, Iv st σ S H s ∧ Mir.run (whC m c b st) s = some (of, sf), ⟨n, st0, S, s, h0, e1⟩, ?_⟩
  rintro m σ1 H1 ⟨st, S1, s1, iv, e⟩
  obtain ⟨p1, x1, t1⟩ := hc st σ1 S1 H1 s1 iv
  cases m with
  | zero =>
    exfalso
    have e' : Mir.run (Mir.lft none : μ (Ctl ρ ζ)) s1 = some (of, sf) := e
    rw [Mir.run_lft] at e'
    cases e'
  | succ m =>
    refine t1 S1 H1 s1 (Gm.rf x1) p1 _ (of, sf) e _ fun t S2 H2 s2 g2 p2 hm2 => ?_
    have iv2 := hg st σ1 S1 H1 s1 S2 H2 s2 iv g2 p2
    cases t with
    | true =>
      obtain ⟨o, s3, e3, e4⟩ := run_of_bind (by simpa using hm2)
      cases o with
      | go st' =>
        have e4' : Mir.run (whC m c b st') s3 = some (of, sf) := e4
        refine iteT ⟨fun σ' H' => ∃ S', Iv st' σ' S' H' s3, fun σ' H' ⟨S', i'⟩ => ⟨m, Nat.lt_succ_self m, st', S', s3, i', e4'⟩, ?_⟩
        refine hb st σ1 S2 H2 s2 _ s3 _ iv2 e3 (fun st2 σ' S' H' q i' => ?_) (fun _ _ _ _ q _ => nomatch q) (fun _ _ _ q _ => nomatch q)
        cases q
        exact ⟨⟨S', i'⟩, ⟨S', i'⟩⟩
      | brk st' =>
        have e4' : Mir.run (pure (Ctl.brk st') : μ (Ctl ρ ζ)) s3 = some (of, sf) := e4
        cases run_of_pure e4'
        refine iteT ⟨fun _ _ => False, fun _ _ q => q.elim, ?_⟩
        refine hb st σ1 S2 H2 s2 _ _ _ iv2 e3 (fun _ _ _ _ q _ => nomatch q) (fun st2 σ' S' H' q i' => ?_) (fun _ _ _ q _ => nomatch q)
        cases q
        exact nx _ _ _ _ _ i' (.inr e2)
      | ret r =>
        have e4' : Mir.run (pure (Ctl.ret r) : μ (Ctl ρ ζ)) s3 = some (of, sf) := e4
        cases run_of_pure e4'
        refine iteT ⟨fun _ _ => False, fun _ _ q => q.elim, ?_⟩
        refine hb st σ1 S2 H2 s2 _ _ _ iv2 e3 (fun _ _ _ _ q _ => nomatch q) (fun _ _ _ _ q _ => nomatch q) (fun r2 v H' q i' => ?_)
        cases q
        exact rt _ _ _ _ i' e2
    | false =>
      have e3 : Mir.run (pure (.go st) : μ (Ctl ρ ζ)) s2 = some (of, sf) := by simpa using hm2
      cases run_of_pure e3
      exact iteF (nx _ σ1 S2 H2 _ iv2 (.inl e2))

/-! ### what is walked -/
abbrev Own := List (Addr × List V)
def OwnOk (p : Pt τ) (H : Hp) (O : Own) : Prop := ∀ c ∈ O, H c.1 = some (.lst c.2) ∧ c.1 ∉ p.M
def ItOk (p : Pt τ) (J : It) (xs : List α) (R : Rp α) (S : Hp) (O : Own) : Prop :=
  ∀ S1 H1, Ex S S1 → Ex S1 H1 → OwnOk p H1 O → (∀ i, i < xs.length → J.go i H1) ∧ J.stop xs.length H1 ∧ ∀ i x v H2, xs[i]? = some x → J.yld i H1 v H2 → ∃ S2, Gm [] S1 H1 S2 H2 ∧ R x v S2
def EvI (p : Pt τ) (wi : TI) (σ : St) (S H : Hp) (m : (List α → μ β) → μ β) (R : Rp α) (O : Own) : Prop :=
  ∀ S1 H1 s, Gm p.M S H S1 H1 → PotAt p s S1 H1 → ∀ (k : List α → μ β) z, Mir.run (m k) s = some z → ∀ Q : It → Hp → Prop,
    (∀ xs J S2 H2 s2, Gm p.M S1 H1 S2 H2 → PotAt p s2 S2 H2 → ItOk p J xs R S2 O → Mir.run (k xs) s2 = some z → Q J H2) → wi σ H1 Q
theorem it_list {q : Addr} {xs : List α} {vs : List V} {R : Rp α} [Mo R] {O : Own} (hl : All R S xs vs) (h : ∀ S1 H1, Ex S S1 → Ex S1 H1 → OwnOk p H1 O → SqL K H1 q vs) : ItOk p (Itl K q) xs R S O := fun S1 H1 e1 e2 o => by
  have hq := h S1 H1 e1 e2 o
  refine ⟨fun i hi => ⟨vs, vs[i]'(by rw [← hl.len]; exact hi), hq, List.getElem?_eq_getElem _⟩, ⟨vs, hq, by rw [hl.len]; exact Nat.le_refl _⟩, fun i x v H2 hx y => ?_⟩
  obtain ⟨e3, y⟩ := y
  subst e3
  obtain ⟨u, hu, ru⟩ := hl.get hx
  rw [y vs hq] at hu
  cases hu
  exact ⟨S1, Gm.rf e2, Mo.mo e1 ru⟩
theorem i_L {m : (List α → μ β) → μ β} {R : Rp α} [Mo R] (h : Ev p te σ S H m (rL (aAll R))) : EvI p (iList K te) σ S H m R [] := fun S1 H1 s g ps k z hm Q q =>
  h S1 H1 s g ps k z hm _ fun a v S2 H2 s2 g2 p2 ⟨x, vs, e, h1, h2⟩ hm2 => ⟨x, e, ⟨vs, .of (g2.i _ _ h1)⟩, q a _ S2 H2 s2 g2 p2 (it_list h2 fun S3 H3 e1 e2 _ => .of (e2 _ _ (e1 _ _ h1))) hm2⟩
theorem i_own {i : Nat} {xs : List α} {q : Addr} {vs : List V} {R : Rp α} [Mo R] (e : σ[i]? = some (some (.ref q))) (hq : H q = some (.lst vs)) (hM : q ∉ p.M) (r : All R S xs vs) : EvI (μ := μ) (β := β) p (iList K (tVar i)) σ S H (fun k => k xs) R [(q, vs)] :=
  fun _ H1 _ g ps _ _ hm _ k => ⟨.ref q, e, q, rfl, ⟨vs, .of (g.h _ _ hM hq)⟩, k _ _ _ _ _ (Gm.rf g.i) ps (it_list (r.mo g.s) fun S3 H3 e1 e2 o => .of (o (q, vs) (by simp)).1) hm⟩
theorem i_T {m : (List α → μ β) → μ β} {R : Rp α} [Mo R] (h : Ev p te σ S H m (rT K (aAll R))) : EvI p (iTup K te) σ S H m R [] := fun S1 H1 s g ps k z hm Q q =>
  h S1 H1 s g ps k z hm _ fun a v S2 H2 s2 g2 p2 ⟨x, vs, e, h1, h2⟩ hm2 => ⟨x, e, ⟨vs, sqT_ex g2.i h1⟩, q a _ S2 H2 s2 g2 p2 (fun S3 H3 e1 e2 _ => by
    have hq := sqT_ex (e1.tr e2) h1
    refine ⟨fun i hi => ⟨vs, vs[i]'(by rw [← h2.len]; exact hi), hq, List.getElem?_eq_getElem _⟩, ⟨vs, hq, by rw [h2.len]; exact Nat.le_refl _⟩, fun i x v H2 hx y => ?_⟩
    obtain ⟨e3, y⟩ := y
    subst e3
    obtain ⟨u, hu, ru⟩ := h2.get hx
    rw [y vs hq] at hu
    cases hu
    exact ⟨S3, Gm.rf e2, Mo.mo e1 ru⟩) hm2⟩
/-- lo, lo + 1, .., below hi -/
def rng (lo hi : Int) : List Int := (List.range (hi - lo).toNat).map fun (i : Nat) => lo + (i : Int)
theorem it_rng {lo : Int} {n : Nat} {O : Own} : ItOk p (Itr lo n) ((List.range n).map fun (i : Nat) => lo + (i : Int)) rI S O := fun S1 H1 _ e2 _ => by
  refine ⟨fun i hi => by show i < n; simpa using hi, by show n ≤ _; simp, fun i x v H2 hx y => ?_⟩
  obtain ⟨e3, y⟩ := y
  subst e3
  subst y
  refine ⟨S1, Gm.rf e2, ?_⟩
  rw [List.getElem?_map] at hx
  have hi : i < n := by
    by_cases h : i < n
    · exact h
    · rw [List.getElem?_eq_none (by simpa using h)] at hx; cases hx
  rw [List.getElem?_eq_getElem (by simpa using hi)] at hx
  simp at hx
  show V.int _ = V.int _
  rw [← hx]
def RgB (i : Int) : Prop := -(2 ^ 62) ≤ i ∧ i < 2 ^ 62
instance (i : Int) : Decidable (RgB i) := inferInstanceAs (Decidable (_ ∧ _))
theorem i_R1 {m : (Int → μ β) → μ β} (h : Ev p te σ S H m rI) : EvI p (iRng1 (tCons te tNil)) σ S H (fun k => m fun n => Mir.lft (grd (RgB n)) >>= fun _ => k (rng 0 n)) rI [] := fun S1 H1 s g ps k z hm Q q =>
  h S1 H1 s g ps _ z hm _ fun n v S2 H2 s2 g2 p2 r hm2 => by
    obtain ⟨_, e, hm2⟩ := run_of_lft hm2
    have hb := grd_of e
    cases (show v = .int n from r)
    refine ⟨n, rfl, hb.1, hb.2, q _ _ S2 H2 s2 g2 p2 ?_ hm2⟩
    unfold rng
    rw [Int.sub_zero]
    exact it_rng
theorem i_R2 {m m' : (Int → μ β) → μ β} (h : Ev p ta σ S H m rI) (h' : Ev p tb σ S H m' rI) : EvI p (iRng2 (tCons ta (tCons tb tNil))) σ S H (fun k => m fun i => m' fun j => Mir.lft (grd (RgB i ∧ RgB j)) >>= fun _ => k (rng i j)) rI [] := fun S1 H1 s g ps k z hm Q q =>
  h S1 H1 s g ps _ z hm _ fun i v S2 H2 s2 g2 p2 r hm2 => h' S2 H2 s2 (g.tr g2) p2 _ z hm2 _ fun j u S3 H3 s3 g3 p3 r3 hm3 => by
    obtain ⟨_, e, hm3⟩ := run_of_lft hm3
    have hb := grd_of e
    cases (show v = .int i from r)
    cases (show u = .int j from r3)
    exact ⟨i, j, rfl, ⟨hb.1.1, hb.1.2, hb.2.1, hb.2.2⟩, q _ _ S3 H3 s3 (g2.tr g3) p3 it_rng hm3⟩

/-! ### for -/
def lpS : List α → (α → ζ → μ ζ) → ζ → μ ζ
  | [], _, st => pure st
  | x :: xs, f, st => f x st >>= lpS xs f
def lpC {ρ : Type} : List α → (α → ζ → μ (Ctl ρ ζ)) → ζ → μ (Ctl ρ ζ)
  | [], _, st => pure (.go st)
  | x :: xs, f, st => f x st >>= fun o => match o with | .go st' => lpC xs f st' | y => pure y
theorem q_for {wi : TI} {g : TG} {O : Own} {m : (List α → μ β) → μ β} {R : Rp α} {P : α → St → St → Hp → Prop} {b : α → ζ → μ ζ} {st0 : ζ} {k : ζ → μ β} (w : Wd p S0 H0 S H L) (ps : PotAt p s S H) (hi : EvI p wi σ S H m R O) (ht : Tg g R P) (hm : Mir.run (m fun xs => lpS xs b st0 >>= k) s = some z)
    (Iv : Hp → ζ → St → Hp → Hp → τ → Prop)
    (h0 : ∀ S1 H1 s1, Wd p S0 H0 S1 H1 L → PotAt p s1 S1 H1 → Gm p.M S H S1 H1 → Iv S1 st0 σ S1 H1 s1)
    (hI : ∀ Sb st σ1 S1 H1 s1, Iv Sb st σ1 S1 H1 s1 → Ex Sb S1 ∧ Ex S1 H1 ∧ PotAt p s1 S1 H1 ∧ OwnOk p H1 O)
    (hg : ∀ Sb st σ1 S1 H1 s1 S2 H2, Iv Sb st σ1 S1 H1 s1 → Gm [] S1 H1 S2 H2 → Iv Sb st σ1 S2 H2 s1)
    (hb : ∀ Sb x st σ1 σ2 S1 H1 s1 st' s2 (D' : Ends), Iv Sb st σ1 S1 H1 s1 → P x σ1 σ2 S1 → Mir.run (b x st) s1 = some (st', s2) → (∀ σ' S' H', Iv Sb st' σ' S' H' s2 → D'.nx σ' H' ∧ D'.ct σ' H') → tu D' σ2 H1)
    (nx : ∀ Sb st σ1 S1 H1 s1, Iv Sb st σ1 S1 H1 s1 → Mir.run (k st) s1 = some z → tz D σ1 H1) : tSeq (tFor wi g tu) tz D σ H :=
  hi S H s (Gm.rf w.i) ps _ z hm _ fun xs J Sb Hb sb gb pb hJ hmb => by
    obtain ⟨stf, sf, e1, e2⟩ := run_of_bind hmb
    refine ⟨fun i m σ H => m = xs.length - i ∧ i ≤ xs.length ∧ ∃ st S s, Iv Sb st σ S H s ∧ Mir.run (lpS (xs.drop i) b st) s = some (stf, sf), ⟨xs.length, by simp, Nat.zero_le _, st0, Sb, sb, h0 Sb Hb sb (w.go gb) pb gb, e1⟩, ?_⟩
    rintro i m σ1 H1 ⟨em, hi, st, S1, s1, iv, e⟩
    subst em
    obtain ⟨x1, x2, p1, o1⟩ := hI _ _ _ _ _ _ iv
    obtain ⟨j1, j2, j3⟩ := hJ S1 H1 x1 x2 o1
    by_cases hlt : i < xs.length
    · have ed : xs.drop i = xs[i] :: xs.drop (i + 1) := List.drop_eq_getElem_cons hlt
      rw [ed] at e
      obtain ⟨st', s2, e3, e4⟩ := run_of_bind (show Mir.run (b xs[i] st >>= lpS (xs.drop (i + 1)) b) s1 = some (stf, sf) from e)
      refine .inr ⟨j1 i hlt, fun σ' H' => ∃ S', Iv Sb st' σ' S' H' s2, fun σ' H' ⟨S', i'⟩ => ⟨xs.length - (i + 1), by omega, rfl, hlt, st', S', s2, i', e4⟩, fun v H2 y => ?_⟩
      obtain ⟨S2, g2, r2⟩ := j3 i xs[i] v H2 (List.getElem?_eq_getElem hlt) y
      exact ht xs[i] v σ1 S2 H2 _ g2.i r2 fun σ2 hp => hb Sb xs[i] st σ1 σ2 S2 H2 s1 st' s2 _ (hg _ _ _ _ _ _ _ _ iv g2) hp e3 fun σ' S' H' i' => ⟨⟨S', i'⟩, ⟨S', i'⟩⟩
    · have ei : i = xs.length := by omega
      subst ei
      rw [List.drop_length] at e
      cases run_of_pure (show Mir.run (pure st : μ ζ) s1 = some (stf, sf) from e)
      exact .inl ⟨j2, nx _ _ _ _ _ _ iv e2⟩
theorem q_forC {ρ : Type} {wi : TI} {g : TG} {O : Own} {m : (List α → μ β) → μ β} {R : Rp α} {P : α → St → St → Hp → Prop} {b : α → ζ → μ (Ctl ρ ζ)} {st0 : ζ} {k : Ctl ρ ζ → μ β} (w : Wd p S0 H0 S H L) (ps : PotAt p s S H) (hi : EvI p wi σ S H m R O) (ht : Tg g R P) (hm : Mir.run (m fun xs => lpC xs b st0 >>= k) s = some z)
    (Iv : Hp → ζ → St → Hp → Hp → τ → Prop) (Rt : ρ → V → Hp → τ → Prop)
    (h0 : ∀ S1 H1 s1, Wd p S0 H0 S1 H1 L → PotAt p s1 S1 H1 → Gm p.M S H S1 H1 → Iv S1 st0 σ S1 H1 s1)
    (hI : ∀ Sb st σ1 S1 H1 s1, Iv Sb st σ1 S1 H1 s1 → Ex Sb S1 ∧ Ex S1 H1 ∧ PotAt p s1 S1 H1 ∧ OwnOk p H1 O)
    (hg : ∀ Sb st σ1 S1 H1 s1 S2 H2, Iv Sb st σ1 S1 H1 s1 → Gm [] S1 H1 S2 H2 → Iv Sb st σ1 S2 H2 s1)
    (hb : ∀ Sb x st σ1 σ2 S1 H1 s1 o s2 (D' : Ends), Iv Sb st σ1 S1 H1 s1 → P x σ1 σ2 S1 → Mir.run (b x st) s1 = some (o, s2) →
      (∀ st' σ' S' H', o = .go st' → Iv Sb st' σ' S' H' s2 → D'.nx σ' H' ∧ D'.ct σ' H') → (∀ st' σ' S' H', o = .brk st' → Iv Sb st' σ' S' H' s2 → D'.bk σ' H') → (∀ r v H', o = .ret r → Rt r v H' s2 → D'.rt v H') → tu D' σ2 H1)
    (nx : ∀ Sb st σ1 S1 H1 s1, Iv Sb st σ1 S1 H1 s1 → Mir.run (k (.go st)) s1 = some z ∨ Mir.run (k (.brk st)) s1 = some z → tz D σ1 H1)
    (rt : ∀ r v H1 s1, Rt r v H1 s1 → Mir.run (k (.ret r)) s1 = some z → D.rt v H1) : tSeq (tFor wi g tu) tz D σ H :=
  hi S H s (Gm.rf w.i) ps _ z hm _ fun xs J Sb Hb sb gb pb hJ hmb => by
    obtain ⟨of, sf, e1, e2⟩ := run_of_bind hmb
    refine ⟨fun i m σ H => m = xs.length - i ∧ i ≤ xs.length ∧ ∃ st S s, Iv Sb st σ S H s ∧ Mir.run (lpC (xs.drop i) b st) s = some (of, sf), ⟨xs.length, by simp, Nat.zero_le _, st0, Sb, sb, h0 Sb Hb sb (w.go gb) pb gb, e1⟩, ?_⟩
    rintro i m σ1 H1 ⟨em, hi, st, S1, s1, iv, e⟩
    subst em
    obtain ⟨x1, x2, p1, o1⟩ := hI _ _ _ _ _ _ iv
    obtain ⟨j1, j2, j3⟩ := hJ S1 H1 x1 x2 o1
    by_cases hlt : i < xs.length
    · have ed : xs.drop i = xs[i] :: xs.drop (i + 1) := List.drop_eq_getElem_cons hlt
      rw [ed] at e
      obtain ⟨o, s2, e3, e4⟩ := run_of_bind (show Mir.run (b xs[i] st >>= fun o => match o with | .go st' => lpC (xs.drop (i + 1)) b st' | y => pure y) s1 = some (of, sf) from e)
      cases o with
      | go st' =>
        refine .inr ⟨j1 i hlt, fun σ' H' => ∃ S', Iv Sb st' σ' S' H' s2, fun σ' H' ⟨S', i'⟩ => ⟨xs.length - (i + 1), by omega, rfl, hlt, st', S', s2, i', e4⟩, fun v H2 y => ?_⟩
        obtain ⟨S2, g2, r2⟩ := j3 i xs[i] v H2 (List.getElem?_eq_getElem hlt) y
        refine ht xs[i] v σ1 S2 H2 _ g2.i r2 fun σ2 hp => hb Sb xs[i] st σ1 σ2 S2 H2 s1 _ s2 _ (hg _ _ _ _ _ _ _ _ iv g2) hp e3 (fun st2 σ' S' H' q i' => ?_) (fun _ _ _ _ q _ => nomatch q) (fun _ _ _ q _ => nomatch q)
        cases q
        exact ⟨⟨S', i'⟩, ⟨S', i'⟩⟩
      | brk st' =>
        cases run_of_pure (show Mir.run (pure (Ctl.brk st') : μ (Ctl ρ ζ)) s2 = some (of, sf) from e4)
        refine .inr ⟨j1 i hlt, fun _ _ => False, fun _ _ q => q.elim, fun v H2 y => ?_⟩
        obtain ⟨S2, g2, r2⟩ := j3 i xs[i] v H2 (List.getElem?_eq_getElem hlt) y
        refine ht xs[i] v σ1 S2 H2 _ g2.i r2 fun σ2 hp => hb Sb xs[i] st σ1 σ2 S2 H2 s1 _ _ _ (hg _ _ _ _ _ _ _ _ iv g2) hp e3 (fun _ _ _ _ q _ => nomatch q) (fun st2 σ' S' H' q i' => ?_) (fun _ _ _ q _ => nomatch q)
        cases q
        exact nx _ _ _ _ _ _ i' (.inr e2)
      | ret r =>
        cases run_of_pure (show Mir.run (pure (Ctl.ret r) : μ (Ctl ρ ζ)) s2 = some (of, sf) from e4)
        refine .inr ⟨j1 i hlt, fun _ _ => False, fun _ _ q => q.elim, fun v H2 y => ?_⟩
        obtain ⟨S2, g2, r2⟩ := j3 i xs[i] v H2 (List.getElem?_eq_getElem hlt) y
        refine ht xs[i] v σ1 S2 H2 _ g2.i r2 fun σ2 hp => hb Sb xs[i] st σ1 σ2 S2 H2 s1 _ _ _ (hg _ _ _ _ _ _ _ _ iv g2) hp e3 (fun _ _ _ _ q _ => nomatch q) (fun _ _ _ _ q _ => nomatch q) (fun r2 v' H' q i' => ?_)
        cases q
        exact rt _ _ _ _ i' e2
    · have ei : i = xs.length := by omega
      subst ei
      rw [List.drop_length] at e
      cases run_of_pure (show Mir.run (pure (.go st) : μ (Ctl ρ ζ)) s1 = some (of, sf) from e)
      exact .inl ⟨j2, nx _ _ _ _ _ _ iv (.inl e2)⟩

/-! ### comprehensions -/
def cns : Option γ → List γ → List γ
  | some y, r => y :: r
  | none, r => r
def cmp : List α → (α → μ (Option γ)) → μ (List γ)
  | [], _ => pure []
  | x :: xs, f => f x >>= fun o => cmp xs f >>= fun r => pure (cns o r)
theorem OwnOk.go {O : Own} {S1 H1 : Hp} (o : OwnOk p H O) (g : Gm p.M S H S1 H1) : OwnOk p H1 O := fun c h => ⟨g.h _ _ (o c h).2 (o c h).1, (o c h).2⟩
theorem OwnOk.put {O : Own} {q : Addr} {u : HO} (o : OwnOk p H O) (n : ∀ c ∈ O, c.1 ≠ q) : OwnOk p (upd H q u) O := fun c h => ⟨by rw [upd_ne (n c h)]; exact (o c h).1, (o c h).2⟩
theorem ownOk0 : OwnOk p H [] := fun _ h => nomatch h
theorem ownOk1 {q : Addr} {vs : List V} (h : H q = some (.lst vs)) (m : q ∉ p.M) : OwnOk p H [(q, vs)] := fun c hc => by
  have e : c = (q, vs) := by simpa using hc
  rw [e]
  exact ⟨h, m⟩
theorem lc_go {g : TG} {vs : List Nat} {O : Own} {R : Rp α} {P : α → St → St → Hp → Prop} {R' : Rp γ} [Mo R'] {mt : α → (Bool → μ (Option γ)) → μ (Option γ)} {me : α → (γ → μ (Option γ)) → μ (Option γ)} {J : It} {xs : List α} {rf : List γ} {sb sf : τ} {Sb Hb : Hp} {Q : VK}
    (g1 : Gm p.M S H Sb Hb) (pb : PotAt p sb Sb Hb) (hJ : ItOk p J xs R Sb O) (hl : xs.length ≤ 16000000) (ho : OwnOk p H O) (ht : Tg g R P) (hw : ∀ x σ' S, P x (wipe σ vs) σ' S → wipe σ' vs = wipe σ vs)
    (hc : ∀ x σ' S1 H1, Gm p.M S H S1 H1 → P x (wipe σ vs) σ' S1 → EvT p tt σ' S1 H1 (mt x))
    (he : ∀ x σ' S1 H1, Gm p.M S H S1 H1 → P x (wipe σ vs) σ' S1 → Ev p te σ' S1 H1 (me x) R') (hP : PMo P)
    (e1 : Mir.run (cmp xs (fun x => mt x fun b => if b = true then me x fun y => pure (some y) else pure none)) sb = some (rf, sf))
    (q : ∀ x us S2 H2, Gm p.M Sb Hb S2 H2 → PotAt p sf S2 H2 → Hb x = none → H2 x = some (.lst us) → S2 x = none → x ∉ p.M → All R' S2 rf us → Q (.ref x) H2) :
    ∀ D, Hb D = none → ∃ W : Nat → Nat → Hp → Prop, (∃ m, W 0 m (upd Hb D (.lst []))) ∧ ∀ i m H, W i m H →
      (J.stop i H ∧ Q (.ref D) H) ∨ (J.go i H ∧ ∃ Nx : Hp → Prop, (∀ H', Nx H' → ∃ m', m' < m ∧ W (i + 1) m' H') ∧ ∀ x H', J.yld i H x H' → g x (wipe σ vs) H' fun σ2 H2 => wipe σ2 vs = wipe σ vs ∧ tt σ2 H2 fun b H3 =>
        if b = true then te σ2 H3 fun y H4 => ∃ acc, H4 D = some (.lst acc) ∧ acc.length < sizeLine ∧ Nx (upd H4 D (.lst (acc ++ [y]))) else Nx H3) := by
    intro Dl hD
    have nS : Sb Dl = none := g1.i.no hD
    have oM : Dl ∉ p.M := new_nM pb hD
    have ob : OwnOk p Hb O := ho.go g1
    have oD : ∀ c ∈ O, c.1 ≠ Dl := fun c h e => by
      have := (ob c h).1
      rw [e, hD] at this; cases this
    refine ⟨fun i m H => m = xs.length - i ∧ i ≤ xs.length ∧ ∃ acc avs rest S s, Gm p.M Sb Hb S H ∧ PotAt p s S H ∧ S Dl = none ∧ H Dl = some (.lst avs) ∧ All R' S acc avs ∧ avs.length ≤ i ∧ OwnOk p H O ∧
      Mir.run (cmp (xs.drop i) (fun x => mt x fun b => if b = true then me x fun y => pure (some y) else pure none)) s = some (rest, sf) ∧ rf = acc ++ rest, ⟨xs.length, by simp, Nat.zero_le _, [], [], rf, Sb, sb, Gm.own g1.i hD, pb.put oM, nS, upd_same, .nil, Nat.le_refl _, ob.put oD, e1, rfl⟩, ?_⟩
    rintro i m H2 ⟨em, hi, acc, avs, rest, S2, s2, g2, p2, n2, d2, a2, l2, o2, r2, er⟩
    subst em
    obtain ⟨j1, j2, j3⟩ := hJ S2 H2 g2.s g2.i o2
    by_cases hlt : i < xs.length
    · have ed : xs.drop i = xs[i] :: xs.drop (i + 1) := List.drop_eq_getElem_cons hlt
      rw [ed] at r2
      obtain ⟨o, s3, e3, e4⟩ := run_of_bind (show Mir.run ((mt xs[i] fun b => if b = true then me xs[i] fun y => pure (some y) else pure none) >>= fun o => cmp (xs.drop (i + 1)) (fun x => mt x fun b => if b = true then me x fun y => pure (some y) else pure none) >>= fun r => pure (cns o r)) s2 = some (rest, sf) from r2)
      obtain ⟨rest', s4, e5, e6⟩ := run_of_bind e4
      have e7 := run_of_pure e6
      have e8 : rest = cns o rest' := congrArg Prod.fst e7
      have e9 : sf = s4 := congrArg Prod.snd e7
      subst e9
      refine .inr ⟨j1 i hlt, fun H' => ∃ acc avs S, Gm p.M Sb Hb S H' ∧ PotAt p s3 S H' ∧ S Dl = none ∧ H' Dl = some (.lst avs) ∧ All R' S acc avs ∧ avs.length ≤ i + 1 ∧ OwnOk p H' O ∧ rf = acc ++ rest', fun H' ⟨acc, avs, S, h1, h2, h3, h4, h5, h6, h7, h8⟩ => ⟨xs.length - (i + 1), by omega, rfl, hlt, acc, avs, rest', S, s3, h1, h2, h3, h4, h5, h6, h7, e5, h8⟩, fun v H3 y => ?_⟩
      obtain ⟨S3, g3, r3⟩ := j3 i xs[i] v H3 (List.getElem?_eq_getElem hlt) y
      have gA : Gm p.M S H S3 H3 := (g1.tr g2).tr g3.up
      refine ht xs[i] v (wipe σ vs) S3 H3 _ g3.i r3 fun σ3 hp => ⟨hw _ _ _ hp, ?_⟩
      refine hc xs[i] σ3 S3 H3 gA hp S3 H3 s2 (Gm.rf g3.i) (p2.go g3) _ (o, s3) e3 _ fun b S4 H4 s4 g4 p4 hm4 => ?_
      have d4 : H4 Dl = some (.lst avs) := g4.h _ _ oM (g3.h _ _ (by simp) d2)
      have n4 : S4 Dl = none := g4.f _ _ (g3.h _ _ (by simp) d2) (g3.f _ _ d2 n2)
      have a4 := a2.mo (g3.s.tr g4.s)
      cases b with
      | true =>
        refine iteT (he xs[i] σ3 S4 H4 (gA.tr g4) (hP _ _ _ _ _ g4.s hp) S4 H4 s4 (Gm.rf g4.i) p4 _ (o, s3) (by simpa using hm4) _ fun c u S5 H5 s5 g5 p5 r5 hm5 => ?_)
        have e10 := run_of_pure hm5
        have e11 : o = some c := congrArg Prod.fst e10
        have e12 : s3 = s5 := congrArg Prod.snd e10
        subst e11
        subst e12
        have d5 : H5 Dl = some (.lst avs) := g5.h _ _ oM d4
        have n5 : S5 Dl = none := g5.f _ _ d4 n4
        refine ⟨avs, d5, by rw [sizeLine_eq]; omega, acc ++ [c], avs ++ [u], S5, ?_, p5.put oM, n5, upd_same, (a4.mo g5.s).app (.cons r5 .nil), by simp; omega, (((o2.go g3.up).go g4).go g5).put oD, ?_⟩
        · exact (((g2.tr g3.up).tr g4).tr g5).put hD n5
        · rw [er, e8]; simp [cns]
      | false =>
        have e10 := run_of_pure (show Mir.run (pure none : μ (Option γ)) s4 = some (o, s3) by simpa using hm4)
        have e11 : o = none := congrArg Prod.fst e10
        have e12 : s3 = s4 := congrArg Prod.snd e10
        subst e11
        subst e12
        exact iteF ⟨acc, avs, S4, (g2.tr g3.up).tr g4, p4, n4, d4, a4, by omega, (o2.go g3.up).go g4, by rw [er, e8]; rfl⟩
    · have ei : i = xs.length := by omega
      subst ei
      rw [List.drop_length] at r2
      have e3 := run_of_pure (show Mir.run (pure [] : μ (List γ)) s2 = some (rest, sf) from r2)
      have e4 : rest = [] := congrArg Prod.fst e3
      have e5 : sf = s2 := congrArg Prod.snd e3
      subst e4
      subst e5
      rw [List.append_nil] at er
      subst er
      exact .inl ⟨j2, q Dl avs S2 H2 g2 p2 hD d2 n2 oM a2⟩
theorem l_lc {wi : TI} {g : TG} {vs : List Nat} {O : Own} {mi : (List α → μ β) → μ β} {R : Rp α} {P : α → St → St → Hp → Prop} {R' : Rp γ} [Mo R'] {mt : α → (Bool → μ (Option γ)) → μ (Option γ)} {me : α → (γ → μ (Option γ)) → μ (Option γ)}
    (hi : EvI p wi σ S H mi R O) (ho : OwnOk p H O) (ht : Tg g R P) (hw : ∀ x σ' S, P x (wipe σ vs) σ' S → wipe σ' vs = wipe σ vs)
    (hc : ∀ x σ' S1 H1, Gm p.M S H S1 H1 → P x (wipe σ vs) σ' S1 → EvT p tt σ' S1 H1 (mt x))
    (he : ∀ x σ' S1 H1, Gm p.M S H S1 H1 → P x (wipe σ vs) σ' S1 → Ev p te σ' S1 H1 (me x) R') (hP : PMo P) :
    EvL p (tLc wi g tt te vs) σ S H (fun k => mi fun xs => Mir.lft (grd (xs.length ≤ 16000000)) >>= fun _ => cmp xs (fun x => mt x fun b => if b = true then me x fun y => pure (some y) else pure none) >>= k) (aAll R') := fun S1 H1 s g1 ps k z hm Q q =>
  hi S1 H1 s g1 ps _ z hm _ fun xs J Sb Hb sb gb pb hJ hmb => by
    obtain ⟨_, el, hmb⟩ := run_of_lft hmb
    have hl := grd_of el
    obtain ⟨rf, sf, e1, e2⟩ := run_of_bind hmb
    exact lc_go (g1.tr gb) pb hJ hl ho ht hw hc he hP e1 fun x us S2 H2 g2 p2 n e n2 m2 a2 => by
      have n1 : H1 x = none := by
        cases e : H1 x with
        | none => rfl
        | some u => obtain ⟨u', e'⟩ := gb.t x u e; rw [n] at e'; cases e'
      exact q rf x us S2 H2 sf (gb.tr g2) p2 n1 e n2 m2 a2 e2
/-- without a test -/
theorem l_lc1 {wi : TI} {g : TG} {vs : List Nat} {O : Own} {mi : (List α → μ β) → μ β} {R : Rp α} {P : α → St → St → Hp → Prop} {R' : Rp γ} [Mo R'] {me : α → (γ → μ (Option γ)) → μ (Option γ)}
    (hi : EvI p wi σ S H mi R O) (ho : OwnOk p H O) (ht : Tg g R P) (hw : ∀ x σ' S, P x (wipe σ vs) σ' S → wipe σ' vs = wipe σ vs)
    (he : ∀ x σ' S1 H1, Gm p.M S H S1 H1 → P x (wipe σ vs) σ' S1 → Ev p te σ' S1 H1 (me x) R') (hP : PMo P) :
    EvL p (tLc wi g tYes te vs) σ S H (fun k => mi fun xs => Mir.lft (grd (xs.length ≤ 16000000)) >>= fun _ => cmp xs (fun x => me x fun y => pure (some y)) >>= k) (aAll R') :=
  l_lc (mt := fun _ k => k true) hi ho ht hw (fun _ _ _ _ _ _ => fun S1 H1 s g ps k z hm Q q => q true S1 H1 s (Gm.rf g.i) ps hm) he hP
/-- the test and the item are asked without a condition -/
theorem cmp_all {t : α → Bool} {f : α → γ} : ∀ (xs : List α) (s : τ), Mir.run (cmp (μ := μ) xs fun x => if t x = true then pure (some (f x)) else pure none) s = some ((xs.filter t).map f, s)
  | [], s => Mir.run_pure _ _
  | x :: xs, s => by
    show Mir.run ((if t x = true then pure (some (f x)) else pure none) >>= fun o => cmp (μ := μ) xs _ >>= fun r => pure (cns o r)) s = _
    have e : (if t x = true then pure (some (f x)) else pure none : μ (Option γ)) = pure (if t x = true then some (f x) else none) := by split <;> rfl
    rw [e, Mir.run_bind, Mir.run_pure]
    show Mir.run (cmp (μ := μ) xs _ >>= fun r => pure (cns _ r)) s = _
    rw [Mir.run_bind, cmp_all xs s]
    show Mir.run (pure _ : μ (List γ)) s = _
    rw [Mir.run_pure]
    cases h : t x with
    | true => simp [cns, List.filter_cons, h]
    | false => simp [cns, List.filter_cons, h]
theorem l_lcT {wi : TI} {g : TG} {vs : List Nat} {O : Own} {mi : (List α → μ β) → μ β} {R : Rp α} {P : α → St → St → Hp → Prop} {R' : Rp γ} [Mo R'] {t : α → Bool} {f : α → γ}
    (hi : EvI p wi σ S H mi R O) (ho : OwnOk p H O) (ht : Tg g R P) (hw : ∀ x σ' S, P x (wipe σ vs) σ' S → wipe σ' vs = wipe σ vs)
    (hc : ∀ x σ' S1 H1, Gm p.M S H S1 H1 → P x (wipe σ vs) σ' S1 → EvT (μ := μ) (β := Option γ) p tt σ' S1 H1 (fun k => k (t x)))
    (he : ∀ x σ' S1 H1, Gm p.M S H S1 H1 → P x (wipe σ vs) σ' S1 → Ev (μ := μ) (β := Option γ) p te σ' S1 H1 (fun k => k (f x)) R') (hP : PMo P) :
    EvL p (tLc wi g tt te vs) σ S H (fun k => mi fun xs => Mir.lft (grd (xs.length ≤ 16000000)) >>= fun _ => k ((xs.filter t).map f)) (aAll R') := fun S1 H1 s g1 ps k z hm Q q =>
  hi S1 H1 s g1 ps _ z hm _ fun xs J Sb Hb sb gb pb hJ hmb => by
    obtain ⟨_, el, hmb⟩ := run_of_lft hmb
    exact lc_go (mt := fun x k => k (t x)) (me := fun x k => k (f x)) (g1.tr gb) pb hJ (grd_of el) ho ht hw hc he hP (cmp_all xs sb) fun x us S2 H2 g2 p2 n e n2 m2 a2 => by
      have n1 : H1 x = none := by
        cases e : H1 x with
        | none => rfl
        | some u => obtain ⟨u', e'⟩ := gb.t x u e; rw [n] at e'; cases e'
      exact q _ x us S2 H2 sb (gb.tr g2) p2 n1 e n2 m2 a2 hmb
theorem filter_T (xs : List α) : (xs.filter fun _ => true) = xs := List.filter_eq_self.mpr fun _ _ => rfl
theorem l_lc1T {wi : TI} {g : TG} {vs : List Nat} {O : Own} {mi : (List α → μ β) → μ β} {R : Rp α} {P : α → St → St → Hp → Prop} {R' : Rp γ} [Mo R'] {f : α → γ}
    (hi : EvI p wi σ S H mi R O) (ho : OwnOk p H O) (ht : Tg g R P) (hw : ∀ x σ' S, P x (wipe σ vs) σ' S → wipe σ' vs = wipe σ vs)
    (he : ∀ x σ' S1 H1, Gm p.M S H S1 H1 → P x (wipe σ vs) σ' S1 → Ev (μ := μ) (β := Option γ) p te σ' S1 H1 (fun k => k (f x)) R') (hP : PMo P) :
    EvL p (tLc wi g tYes te vs) σ S H (fun k => mi fun xs => Mir.lft (grd (xs.length ≤ 16000000)) >>= fun _ => k (xs.map f)) (aAll R') := fun S1 H1 s g1 ps k z hm Q q =>
  hi S1 H1 s g1 ps _ z hm _ fun xs J Sb Hb sb gb pb hJ hmb => by
    obtain ⟨_, el, hmb⟩ := run_of_lft hmb
    have ec := cmp_all (μ := μ) (t := fun _ => true) (f := f) xs sb
    rw [filter_T] at ec
    exact lc_go (mt := fun x k => k true) (me := fun x k => k (f x)) (g1.tr gb) pb hJ (grd_of el) ho ht hw (fun _ _ _ _ _ _ => fun S1 H1 s g ps k z hm Q q => q true S1 H1 s (Gm.rf g.i) ps hm) he hP ec fun x us S2 H2 g2 p2 n e n2 m2 a2 => by
      have n1 : H1 x = none := by
        cases e : H1 x with
        | none => rfl
        | some u => obtain ⟨u', e'⟩ := gb.t x u e; rw [n] at e'; cases e'
      exact q _ x us S2 H2 sb (gb.tr g2) p2 n1 e n2 m2 a2 hmb
end
end Wk
set_option Elab.async false
set_option maxRecDepth 100000
set_option maxHeartbeats 4000000
set_option linter.all false
/-! W3: defs whose callers show nothing (guards known), promises by mirrors, calls -/
namespace Wk
open PySem L2
open PyProof.Rows hiding St

/-- a def keeps its promise wherever no repr is under way -/
structure FnG (P : Program) (w : World) (K : PySem.W.Frag) (mg : Str → Option Value) (base : Heap) (CX : CXT) (k : Nat) (f : Addr) (fd : FuncData) (ps : List Str) (sp : Sp) : Prop where
  len : ∀ vs H Q E, sp vs H Q E → vs.length = ps.length
  run : ∀ (A : Around) (outer : List Env) (s : Shared) (H : Hp) (args : Args) (us : List Value) (vs : List V) (Q : VK) (E : XK),
    Room k A → A.guards = some [] → Env0 P w K mg base A outer s H → BindsTo s fd args (ps.zip us) → Vals vs us → sp vs H Q E →
    codeAny (model P w) A (.call (.ref f) args) (CR CX outer P w H s Q E) s
theorem FnG.up {P : Program} {w : World} {K : PySem.W.Frag} {mg : Str → Option Value} {base : Heap} {CX : CXT} {j k : Nat} {f : Addr} {fd : FuncData} {ps : List Str} {sp : Sp}
    (F : FnG P w K mg base CX j f fd ps sp) (h : j ≤ k) : FnG P w K mg base CX k f fd ps sp :=
  ⟨F.len, fun A o s H a us vs Q E hr => F.run A o s H a us vs Q E (hr.mono h)⟩
section
variable {P : Program} {w : World} {K : PySem.W.Frag} {mg : Str → Option Value} {base : Heap}
/-- a def by its body -/
theorem okG {CX : CXT} {x qual : Str} {st : Stmt} {f : Addr} {fd : FuncData} {N ps : List Str} {k : Nat} {sp : Sp} (F : Fun K x qual st f fd) (Sc : FnScope N ps (defScope st))
    (len : ∀ vs H Q E, sp vs H Q E → vs.length = ps.length)
    (body : ∀ (cdv : Value) (A : Around) (outer : List Env) (s : Shared) (H : Hp) (vs : List V) (Q : VK) (E : XK),
      Room k (A.deeper (envOfC qual (defScope st) s.heap.objs.size f cdv)) → A.guards = some [] → sp vs H Q E →
      ∃ t, PSs (cxOf CX P w K mg base N qual (defScope st) f cdv A outer s H E) (defBody st) t ∧ t { nx := fun _ H' => Q .non H', rt := Q } (start N vs) H) :
    FnG P w K mg base CX (k + 1) f fd ps sp := by
  obtain ⟨oc, od, kV, doc, pm, an, cdv, ct, osl, rfl, lk, hcd⟩ := F.ex
  constructor
  · exact len
  intro A outer s H args us vs Q E room gd e0 hb rv hsp
  have inK : K.In s.heap := e0.mod.kin.keeps (fun b o e => (e0.bs b o e).1)
  have noLim : s.heap.NoLimit := e0.mod.nolimit.keeps (fun b o e => (e0.bs b o e).1)
  have kinds : ∀ y ∈ ps.zip us, (defScope st).names.lookup y.1 = some .local ∨
      ((defScope st).names.lookup y.1 = some .cell ∧ ((cellsFrom (s.heap.objs.size + 1) (defScope st).names []).lookup y.1).isSome = true) := by
    rintro ⟨nm, vl⟩ hy
    cases Sc.par nm (List.of_mem_zip hy).1 with
    | inl q => exact Or.inl q
    | inr q => exact Or.inr ⟨q, PySem.W.cellsFrom_some _ _ _ (Or.inl q)⟩
  apply codeAny_call_function room.depth (inK _ _ lk) rfl Sc.co Sc.gen rfl (PySem.W.codeRec_of inK hcd)
  apply hb
  apply wpAny_newFunctionEnv_cells Sc.kind kinds
  intro env he s1 x
  subst he
  constructor
  · exact noLim.keeps x.toInCall.keep
  apply codeAny_func
  obtain ⟨t, ht, hq⟩ := body cdv A outer s H vs Q E (room.deeper _) gd hsp
  have I0 := inv_start (CX := CX) (E := E) (cd := cdv) (f := f) (qual := qual) Sc room.hd e0 (len _ _ _ _ hsp) rv x
  refine wpAny_mono (ht.run [] s1 (start N vs) H _ I0 hq) ?_ (fun e s' hs => hs)
  intro fl s' hs
  cases fl with
  | ret u =>
    obtain ⟨v, σ', H', J, r1, q⟩ := hs
    exact ⟨v, H', J.os, J.bare, J.base, J.hok, r1, q⟩
  | next =>
    obtain ⟨σ', H', J, q⟩ := hs
    exact ⟨V.non, H', J.os, J.bare, J.base, J.hok, rfl, q⟩
  | brk =>
    obtain ⟨σ', H', J, q⟩ := hs
    exact q.elim
  | cont =>
    obtain ⟨σ', H', J, q⟩ := hs
    exact q.elim
/-- .. that lets nothing out -/
theorem okG0 {x qual : Str} {st : Stmt} {f : Addr} {fd : FuncData} {N ps : List Str} {k : Nat} {sp : Sp} (F : Fun K x qual st f fd) (Sc : FnScope N ps (defScope st))
    (len : ∀ vs H Q E, sp vs H Q E → vs.length = ps.length)
    (body : ∀ (cdv : Value) (A : Around) (outer : List Env) (s : Shared) (H : Hp) (vs : List V) (Q : VK) (E : XK),
      Room k (A.deeper (envOfC qual (defScope st) s.heap.objs.size f cdv)) → A.guards = some [] → sp vs H Q E →
      ∃ t, PSs (cxOf CX0 P w K mg base N qual (defScope st) f cdv A outer s H E).nox (defBody st) t ∧ t { nx := fun _ H' => Q .non H', rt := Q } (start N vs) H) :
    FnG P w K mg base CX0 (k + 1) f fd ps sp := okG F Sc len fun cdv A outer s H vs Q E hr gd h => by
  obtain ⟨t, h1, h2⟩ := body cdv A outer s H vs Q E hr gd h
  exact ⟨t, h1.nox, h2⟩
end

/-! ### calls -/
section
variable {X : Cx} {CX : CXT} {k n : Nat} {f : Addr} {fd : FuncData} {ps ks : List Str} {sp : Sp} {E : XK} {x : Str} {p pos : Pos} {e : Expr} {es : List Expr} {kws : List Keyword} {t tk : TA}
/-- what a callee's run gives to its caller -/
theorem end_G {pins : List (Addr × Obj)} {σ : St} {H : Hp} {s s' : Shared} {Q : VK} {r : Result} (hx : Passes CX X E) (I : Inv X pins σ H s) (h : CR CX X.stack X.prog X.w H s Q E r s') :
    match r with | .ok (.ret u) => EP X pins σ Q u s' | .ok _ => False | .error e => X.xe e s' := by
  match r, h with
  | .ok (.ret u), h => exact I.after h
  | .error e, h => exact hx pins σ H s e s' I h
theorem run_G {pins : List (Addr × Obj)} {σ : St} {H : Hp} {s : Shared} {Q : VK} {us : List Value} {vs : List V} (F : FnG X.prog X.w X.K X.mg X.base CX k f fd ps sp) (hr : Room k X.A) (gd : X.A.guards = some [])
    (hb : Binds X.K fd ps []) (hx : Passes CX X E) (I : Inv X pins σ H s) (r : Vals vs us) (h : sp vs H Q E) : wpAny (model X.prog X.w) X.A (call (.ref f) us) (EP X pins σ Q) X.xe s := by
  have hl : (us ++ []).length = ps.length := by
    rw [List.append_nil, ← r.length]
    exact F.len _ _ _ _ h
  have hb' := hb s us I.kIn hl
  rw [List.append_nil] at hb'
  refine wpAny_call (codeAny_mono (F.run X.A X.stack s H ⟨us, []⟩ us vs Q E hr gd I.env0 hb' r h) fun res s' hq => ?_)
  have q := end_G hx I hq
  cases res with
  | error er => exact q
  | ok fl => cases fl <;> first | exact q | exact q.elim
theorem pe_cG (F : FnG X.prog X.w X.K X.mg X.base CX k f fd ps sp) (hr : Room k X.A) (gd : X.A.guards = some []) (hg : Gl X x) (hm : X.mg x = some (.ref f)) (hk : PySem.W.keepIn X.K (.ref f) = true) (hb : Binds X.K fd ps []) (hx : Passes CX X E)
    (ha : PA X (e :: es) t) (hdb : (x == ("__debug__" : Str)) = false := by decide) (he : starEach (e :: es) X.env = (false, eval e X.env) :: starEach es X.env := by rfl) (hpl : (backTo pos (starEach es X.env)).any (·.1) = false := by rfl) :
    PE X (.Call (.Name x p) (e :: es) [] pos) (tCall sp [] E t) := by
  constructor
  intro pins s σ H Q I h
  apply wpAny_Call_Name_kw
  apply ld_glob I hg hm _ hdb
  apply PySem.W.callWith_K (h₀ := X.base) I.ok.mod.kin hk _ he hpl
  refine thn (ha.run pos pins s σ H _ I h) ?_
  rintro us s1 ⟨vs, H1, I1, r, q⟩
  refine ⟨I1.kIn, run_G F hr gd hb hx I1 r ?_⟩
  rw [List.append_nil] at q
  exact q
theorem pe_cG0 (F : FnG X.prog X.w X.K X.mg X.base CX k f fd ps sp) (hr : Room k X.A) (gd : X.A.guards = some []) (hg : Gl X x) (hm : X.mg x = some (.ref f)) (hk : PySem.W.keepIn X.K (.ref f) = true) (hb : Binds X.K fd ps []) (hx : Passes CX X E)
    (hdb : (x == ("__debug__" : Str)) = false := by decide) : PE X (.Call (.Name x p) [] [] pos) (tCall sp [] E tNil) := by
  constructor
  intro pins s σ H Q I h
  apply wpAny_Call_Name_kw
  apply ld_glob I hg hm _ hdb
  apply PySem.W.callWith_K0 I.kIn hk
  exact run_G (us := []) (vs := []) F hr gd hb hx I .nil h
theorem pick_vals {vs : List V} {us : List Value} (r : Vals vs us) : ∀ ix : List Nat, Vals (pick ix vs) (pick ix us)
  | [] => .nil
  | i :: ix => by
    have h := pick_vals r ix
    unfold pick at h ⊢
    rw [List.filterMap_cons, List.filterMap_cons]
    cases e : vs[i]? with
    | none =>
      rw [r.none_of e]
      exact h
    | some v =>
      obtain ⟨u, e2, r2⟩ := r.get e
      rw [e2]
      exact .cons r2 h
/-- how names are bound where some are given by keywords: n by place, those of ks by name; ix tells the parameters' order -/
def KB (K : PySem.W.Frag) (fd : FuncData) (ps : List Str) (n : Nat) (ks : List Str) (ix : List Nat) : Prop :=
  ∀ (s : Shared) (us ws : List Value), K.In s.heap → us.length = n → ws.length = ks.length → BindsTo s fd ⟨us, ks.zip ws⟩ (ps.zip (pick ix (us ++ ws)))
def tCallG (n m : Nat) (ix : List Nat) (sp : Sp) (E : XK) (t tk : TA) : TE := fun σ H Q => t σ H fun vs H1 => tk σ H1 fun zs H2 => vs.length = n ∧ zs.length = m ∧ sp (pick ix (vs ++ zs)) H2 Q E
theorem run_Gk {pins : List (Addr × Obj)} {σ : St} {H : Hp} {s : Shared} {Q : VK} {ix : List Nat} {us ws : List Value} {vs zs : List V} (F : FnG X.prog X.w X.K X.mg X.base CX k f fd ps sp) (hr : Room k X.A) (gd : X.A.guards = some [])
    (hb : KB X.K fd ps n ks ix) (hx : Passes CX X E) (I : Inv X pins σ H s) (r : Vals vs us) (rz : Vals zs ws) (l1 : vs.length = n) (l2 : zs.length = ks.length) (h : sp (pick ix (vs ++ zs)) H Q E) :
    wpAny (model X.prog X.w) X.A (call (.ref f) us (ks.zip ws)) (EP X pins σ Q) X.xe s := by
  have hb' := hb s us ws I.kIn (r.length.symm.trans l1) (rz.length.symm.trans l2)
  refine wpAny_call (codeAny_mono (F.run X.A X.stack s H ⟨us, ks.zip ws⟩ _ _ Q E hr gd I.env0 hb' (pick_vals (r.append rz) ix) h) fun res s' hq => ?_)
  have q := end_G hx I hq
  cases res with
  | error er => exact q
  | ok fl => cases fl <;> first | exact q | exact q.elim
theorem pe_cGK {ix : List Nat} (F : FnG X.prog X.w X.K X.mg X.base CX k f fd ps sp) (hr : Room k X.A) (gd : X.A.guards = some []) (hg : Gl X x) (hm : X.mg x = some (.ref f)) (hk : PySem.W.keepIn X.K (.ref f) = true) (hb : KB X.K fd ps n ks ix) (hx : Passes CX X E)
    (ha : PA X (e :: es) t) (hkw : PK X kws tk) (hall : (backToKw pos (keywordEach kws X.env)).all (·.1.isSome) = true := by rfl) (hks : (backToKw pos (keywordEach kws X.env)).filterMap (·.1) = ks := by rfl)
    (hdb : (x == ("__debug__" : Str)) = false := by decide) (he : starEach (e :: es) X.env = (false, eval e X.env) :: starEach es X.env := by rfl)
    (hpl : ((backTo pos (starEach (e :: es) X.env)).any (·.1) || (backToKw pos (keywordEach kws X.env)).any (·.1.isNone)) = false := by rfl) :
    PE X (.Call (.Name x p) (e :: es) kws pos) (tCallG n ks.length ix sp E t tk) := by
  constructor
  intro pins s σ H Q I h
  apply wpAny_Call_Name_kw
  apply ld_glob I hg hm _ hdb
  refine PySem.W.callWith_KW (h₀ := X.base) I.ok.mod.kin hk hall (thn (ha.run pos pins s σ H _ I h) ?_) hpl he
  rintro us s1 ⟨vs, H1, I1, r, q⟩
  refine thn (hkw.run pos pins s1 σ H1 _ I1 q) ?_
  rintro ws s2 ⟨zs, H2, I2, rz, l1, l2, q2⟩
  refine ⟨I2.kIn, ?_⟩
  rw [hks]
  exact run_Gk F hr gd hb hx I2 r rz l1 l2 q2
theorem pe_cGK0 {ix : List Nat} (F : FnG X.prog X.w X.K X.mg X.base CX k f fd ps sp) (hr : Room k X.A) (gd : X.A.guards = some []) (hg : Gl X x) (hm : X.mg x = some (.ref f)) (hk : PySem.W.keepIn X.K (.ref f) = true) (hb : KB X.K fd ps 0 ks ix) (hx : Passes CX X E)
    (hkw : PK X kws tk) (hall : (backToKw pos (keywordEach kws X.env)).all (·.1.isSome) = true := by rfl) (hks : (backToKw pos (keywordEach kws X.env)).filterMap (·.1) = ks := by rfl)
    (hdb : (x == ("__debug__" : Str)) = false := by decide)
    (hpl : ((backTo pos (starEach [] X.env)).any (·.1) || (backToKw pos (keywordEach kws X.env)).any (·.1.isNone)) = false := by rfl) :
    PE X (.Call (.Name x p) [] kws pos) (tCallG 0 ks.length ix sp E tNil tk) := by
  constructor
  intro pins s σ H Q I h
  apply wpAny_Call_Name_kw
  apply ld_glob I hg hm _ hdb
  have h' : tk σ H (fun zs H2 => ([] : List V).length = 0 ∧ zs.length = ks.length ∧ sp (pick ix ([] ++ zs)) H2 Q E) := h
  refine PySem.W.callWith_KW0 (h₀ := X.base) I.ok.mod.kin hk hall (thn (hkw.run pos pins s σ H _ I h') ?_) hpl
  rintro ws s2 ⟨zs, H2, I2, rz, l1, l2, q2⟩
  refine ⟨I2.kIn, ?_⟩
  rw [hks]
  exact run_Gk (us := []) (vs := []) F hr gd hb hx I2 .nil rz l1 l2 q2
end

/-! ### promises by mirrors -/
section
variable {μ : Type → Type} {τ : Type} [Mir μ τ] {ν : Type → Type} {υ : Type} [Mir ν υ] {ι α β γ δ ρ : Type} {p : Pt τ} {σ : St} {S H S0 H0 : Hp} {te ta tb : TE} {tt : TT} {K : PySem.W.Frag}
/-- what stays comes back -/
def spV (F : ι → Pt τ) (fm : α → μ ρ) (A : ι → Rq α) (R : Rp ρ) : Sp := fun vs H Q _ => ∃ i a S s r s', Ex S H ∧ PotAt (F i) s S H ∧ A i a vs S ∧ Mir.run (fm a) s = some (r, s') ∧
  ∀ v S' H', Gm (F i).M S H S' H' → PotAt (F i) s' S' H' → R r v S' → Q v H'
/-- a new list comes back -/
def spN (F : ι → Pt τ) (fm : α → μ ρ) (A : ι → Rq α) (R : Rq ρ) : Sp := fun vs H Q _ => ∃ i a S s r s', Ex S H ∧ PotAt (F i) s S H ∧ A i a vs S ∧ Mir.run (fm a) s = some (r, s') ∧
  ∀ q us S' H', Gm (F i).M S H S' H' → PotAt (F i) s' S' H' → H q = none → H' q = some (.lst us) → S' q = none → R r us S' → Q (.ref q) H'
def F0 : Unit → Pt Unit := fun _ => pt0
theorem pot0' {S H : Hp} {s : Unit} : PotAt pt0 s S H := fun _ h => nomatch h
/-- a pure def's call -/
theorem e_call {fm : α → Option ρ} {A : Rq α} {R : Rp ρ} {t : TA} {E : XK} {m : (α → μ β) → μ β} (h : EvA p t σ S H m A) : Ev p (tCall (spV F0 fm (fun _ => A) R) [] E t) σ S H (fun k => m fun a => Mir.lft (fm a) >>= k) R := fun S1 H1 s g ps k z hm Q q =>
  h S1 H1 s g ps _ z hm _ fun a vs S2 H2 s2 g2 p2 r hm2 => by
    obtain ⟨b, e, hm3⟩ := run_of_lft hm2
    refine ⟨(), a, S2, (), b, (), g2.i, pot0', by rw [List.append_nil]; exact r, by show (fm a).map _ = _; rw [e]; rfl, fun v S' H' g3 _ r3 => ?_⟩
    exact q b v S' H' s2 (g2.tr (Gm.up g3)) (p2.go g3) r3 hm3
theorem l_call {fm : α → Option ρ} {A : Rq α} {R : Rq ρ} {t : TA} {E : XK} {m : (α → μ β) → μ β} (h : EvA p t σ S H m A) : EvL p (tCall (spN F0 fm (fun _ => A) R) [] E t) σ S H (fun k => m fun a => Mir.lft (fm a) >>= k) R := fun S1 H1 s g ps k z hm Q q =>
  h S1 H1 s g ps _ z hm _ fun a vs S2 H2 s2 g2 p2 r hm2 => by
    obtain ⟨b, e, hm3⟩ := run_of_lft hm2
    refine ⟨(), a, S2, (), b, (), g2.i, pot0', by rw [List.append_nil]; exact r, by show (fm a).map _ = _; rw [e]; rfl, fun x us S' H' g3 _ n e3 n3 r3 => ?_⟩
    have n1 : H1 x = none := by
      cases e : H1 x with
      | none => rfl
      | some u => obtain ⟨u', e'⟩ := g2.t x u e; rw [n] at e'; cases e'
    exact q b x us S' H' s2 (g2.tr (Gm.up g3)) (p2.go g3) n1 e3 n3 (new_nM p2 n) r3 hm3
/-- a def that changes the lot -/
theorem e_callP {F : ι → Pt τ} {i : ι} {fm : α → μ ρ} {A : ι → Rq α} {R : Rp ρ} {t : TA} {E : XK} {m : (α → μ β) → μ β} (h : EvA (F i) t σ S H m (A i)) : Ev (F i) (tCall (spV F fm A R) [] E t) σ S H (fun k => m fun a => fm a >>= k) R := fun S1 H1 s g ps k z hm Q q =>
  h S1 H1 s g ps _ z hm _ fun a vs S2 H2 s2 g2 p2 r hm2 => by
    obtain ⟨b, s3, e, hm3⟩ := run_of_bind hm2
    refine ⟨i, a, S2, s2, b, s3, g2.i, p2, by rw [List.append_nil]; exact r, e, fun v S' H' g3 p3 r3 => ?_⟩
    exact q b v S' H' s3 (g2.tr g3) p3 r3 hm3
theorem l_callP {F : ι → Pt τ} {i : ι} {fm : α → μ ρ} {A : ι → Rq α} {R : Rq ρ} {t : TA} {E : XK} {m : (α → μ β) → μ β} (h : EvA (F i) t σ S H m (A i)) : EvL (F i) (tCall (spN F fm A R) [] E t) σ S H (fun k => m fun a => fm a >>= k) R := fun S1 H1 s g ps k z hm Q q =>
  h S1 H1 s g ps _ z hm _ fun a vs S2 H2 s2 g2 p2 r hm2 => by
    obtain ⟨b, s3, e, hm3⟩ := run_of_bind hm2
    refine ⟨i, a, S2, s2, b, s3, g2.i, p2, by rw [List.append_nil]; exact r, e, fun x us S' H' g3 p3 n e3 n3 r3 => ?_⟩
    have n1 : H1 x = none := by
      cases e : H1 x with
      | none => rfl
      | some u => obtain ⟨u', e'⟩ := g2.t x u e; rw [n] at e'; cases e'
    exact q b x us S' H' s3 (g2.tr g3) p3 n1 e3 n3 (new_nM p2 n) r3 hm3
/-- by keywords -/
theorem e_callK {n m' : Nat} {ix : List Nat} {fm : α → Option ρ} {A : Rq α} {A1 : Rq γ} {A2 : Rq δ} {R : Rp ρ} {t tk : TA} {E : XK} {m1 : (γ → μ β) → μ β} {m2 : (δ → μ β) → μ β} (π : γ → δ → α) (h1 : EvA p t σ S H m1 A1) (h2 : EvA p tk σ S H m2 A2) [Mo A1]
    (hπ : ∀ a b vs zs S, A1 a vs S → A2 b zs S → vs.length = n ∧ zs.length = m' ∧ A (π a b) (pick ix (vs ++ zs)) S) : Ev p (tCallG n m' ix (spV F0 fm (fun _ => A) R) E t tk) σ S H (fun k => m1 fun a => m2 fun b => Mir.lft (fm (π a b)) >>= k) R := fun S1 H1 s g ps k z hm Q q =>
  h1 S1 H1 s g ps _ z hm _ fun a vs S2 H2 s2 g2 p2 r hm2 => h2 S2 H2 s2 (g.tr g2) p2 _ z hm2 _ fun b zs S3 H3 s3 g3 p3 r3 hm3 => by
    obtain ⟨c, e, hm4⟩ := run_of_lft hm3
    obtain ⟨l1, l2, r4⟩ := hπ a b vs zs S3 (Mo.mo g3.s r) r3
    refine ⟨l1, l2, (), π a b, S3, (), c, (), g3.i, pot0', r4, by show (fm _).map _ = _; rw [e]; rfl, fun v S' H' g4 _ r5 => ?_⟩
    exact q c v S' H' s3 ((g2.tr g3).tr (Gm.up g4)) (p3.go g4) r5 hm4
theorem l_callK {n m' : Nat} {ix : List Nat} {fm : α → Option ρ} {A : Rq α} {A1 : Rq γ} {A2 : Rq δ} {R : Rq ρ} {t tk : TA} {E : XK} {m1 : (γ → μ β) → μ β} {m2 : (δ → μ β) → μ β} (π : γ → δ → α) (h1 : EvA p t σ S H m1 A1) (h2 : EvA p tk σ S H m2 A2) [Mo A1]
    (hπ : ∀ a b vs zs S, A1 a vs S → A2 b zs S → vs.length = n ∧ zs.length = m' ∧ A (π a b) (pick ix (vs ++ zs)) S) : EvL p (tCallG n m' ix (spN F0 fm (fun _ => A) R) E t tk) σ S H (fun k => m1 fun a => m2 fun b => Mir.lft (fm (π a b)) >>= k) R := fun S1 H1 s g ps k z hm Q q =>
  h1 S1 H1 s g ps _ z hm _ fun a vs S2 H2 s2 g2 p2 r hm2 => h2 S2 H2 s2 (g.tr g2) p2 _ z hm2 _ fun b zs S3 H3 s3 g3 p3 r3 hm3 => by
    obtain ⟨c, e, hm4⟩ := run_of_lft hm3
    obtain ⟨l1, l2, r4⟩ := hπ a b vs zs S3 (Mo.mo g3.s r) r3
    refine ⟨l1, l2, (), π a b, S3, (), c, (), g3.i, pot0', r4, by show (fm _).map _ = _; rw [e]; rfl, fun x us S' H' g4 _ n e3 n3 r5 => ?_⟩
    have n1 : H1 x = none := by
      cases e : H1 x with
      | none => rfl
      | some u => obtain ⟨u', e'⟩ := (g2.tr g3).t x u e; rw [n] at e'; cases e'
    exact q c x us S' H' s3 ((g2.tr g3).tr (Gm.up g4)) (p3.go g4) n1 e3 n3 (new_nM p3 n) r5 hm4
end

/-! ### the law's end -/
theorem vals_ints' {vs : List Value} {ns : List Int} (h : IntsAre vs ns) : Vals (ns.map V.int) vs := vals_ints h
/-- the head's goal, from the law's promise: as the layer's own, guards told -/
theorem law_G {P : Program} {w : World} {K : PySem.W.Frag} {mg mb : Str → Option Value} {CX : CXT} {k : Nat} {fa a : Addr} {fd : FuncData} {x : Str} {sp : Sp} {s₁ : Shared} {vs : List Value} {ns : List Int}
    (KX : K.In s₁.heap) (hns : s₁.heap.Ns mainGlobals mg) (hdg : s₁.heap.NoDigits) (hb : s₁.heap.Ns builtinsNs mb) (hbb : ∀ x : Str, x ≠ "__name__" → mb x = bootBuiltins x) (hlim : s₁.heap.NoLimit) (hg : s₁.gens = #[])
    (ha : s₁.heap.get? a = some { cls := .type "list", data := .seq vs.toArray }) (hi : IntsAre vs ns) (hl : ns.length ≤ sizeLine) (hr : Room k callerA)
    (F : ∀ base : Heap, K.In base → base.Ns mainGlobals mg → base.NoDigits → FnG P w K mg base CX k fa fd [x] sp) (hbind : ∀ (s : Shared) (u : Value), BindsTo s fd ⟨[u], []⟩ [(x, u)])
    (hsp : ∀ H : Hp, SqL K H a (ns.map V.int) → sp [.ref a] H (fun v _ => v = .bl true) fun _ _ _ => False)
    (hCX : ∀ H e s', CX [] H s₁ (fun _ _ _ => False) e s' → False) :
    codeAny (model P w) callerA (.call (.ref fa) ⟨[.ref a], []⟩) (fun r s' => r = .ok (.ret (.bool true)) ∧ OldK s₁.heap s'.heap ∧ s'.os = s₁.os ∧ AllBare s'.gens) s₁ := by
  have rv := vals_ints hi
  have lenV := hi.length
  -- a heap that tracks at most the script
  let ob : Obj := { cls := .type "list", data := .seq vs.toArray }
  have go : ∀ H : Hp, (∀ b u, H b = some u → b = a ∧ u = .frz ob (.lst (ns.map V.int))) → SqL K H a (ns.map V.int) → (H a ≠ none → K.lookup a = none) →
      codeAny (model P w) callerA (.call (.ref fa) ⟨[.ref a], []⟩) (fun r s' => r = .ok (.ret (.bool true)) ∧ OldK s₁.heap s'.heap ∧ s'.os = s₁.os ∧ AllBare s'.gens) s₁ := by
    intro H only hS hK
    have ok : HOk P w H s₁.heap := by
      intro b u e
      obtain ⟨e1, e2⟩ := only b u e
      subst e1 e2
      exact ⟨ha, by rw [List.length_map]; exact hl, vs, 0, rv, ha⟩
    have free : ∀ {b : Addr} {o : Obj} {es : Array DictEntry} {ep : Nat}, s₁.heap.get? b = some o → o.data = .dict es ep → H b = none := by
      intro b o es ep e d
      cases q : H b with
      | none => rfl
      | some u =>
        obtain ⟨e1, _⟩ := only b u q
        subst e1
        rw [ha] at e
        cases e
        exact nomatch d
    have ns' : ∀ {b : Addr} {m : Str → Option Value}, s₁.heap.Ns b m → (hidT s₁.heap H).Ns b m := by
      rintro b m ⟨o, es, ep, e, d, r⟩
      exact ⟨o, es, ep, hidT_get e (free e d), d, r⟩
    have inB : K.In (hidT s₁.heap H) := by
      intro b o e
      apply hidT_get (KX b o e)
      cases q : H b with
      | none => rfl
      | some u =>
        obtain ⟨e1, _⟩ := only b u q
        subst e1
        rw [hK (by rw [q]; simp)] at e
        cases e
    have md : Mod K mg (hidT s₁.heap H) := ⟨inB, ns' hns, ⟨mb, ns' hb, hbb⟩, by obtain ⟨mc, h1, h2⟩ := hlim; exact ⟨mc, ns' h1, h2⟩⟩
    have none_in : ∀ b : Addr, b ∉ frs [] := fun b z => nomatch (show b ∈ ([] : List Addr) from z)
    have e0 : Env0 P w K mg (hidT s₁.heap H) callerA [] s₁ H :=
      ⟨rfl, md, fun b o e => of_hidT e, Nat.le_of_eq (hidT_size _ _), trivial, fun b hb => absurd hb (none_in b), ok, .of_eq hg⟩
    have run := (F _ inB (ns' hns) (let ⟨mc, h1, h2⟩ := hdg; ⟨mc, ns' h1, h2⟩)).run callerA [] s₁ H ⟨[.ref a], []⟩ [.ref a] [.ref a] _ _ hr rfl e0 (hbind s₁ (.ref a)) (.cons rfl .nil) (hsp H hS)
    refine codeAny_mono run ?_
    intro r s' h
    match r, h with
    | .error e, h => exact (hCX H e s' h).elim
    | .ok (.ret u), h =>
      obtain ⟨v, H', os, bare, un, ok', r', q⟩ := h
      have q' : v = .bl true := q
      subst q'
      have ru : u = Value.bool true := r'
      subst ru
      refine ⟨rfl, OldK.of_keep ?_, os, bare⟩
      intro b o e
      cases q : H b with
      | none => exact un.keep b o e q (none_in b) (by simp)
      | some u =>
        obtain ⟨e1, e2⟩ := only b u q
        subst e1 e2
        obtain ⟨g1, _⟩ := ok' _ _ (un.frzs _ _ _ q)
        rw [ha] at e
        cases e
        exact g1
  cases hk : K.lookup a with
  | some o =>
    have e := KX a o hk
    rw [ha] at e
    cases e
    exact go (fun _ => none) (fun _ _ z => nomatch z) (.inr ⟨_, vs.toArray, _, hk, rfl, rfl, rfl, by rw [List.size_toArray, lenV]; exact hl, by simpa using rv⟩) (fun z => absurd rfl z)
  | none =>
    refine go (upd (fun _ => none) a (.frz ob (.lst (ns.map V.int)))) ?_ (.inl (.inr ⟨ob, upd_same⟩)) (fun _ => hk)
    intro b u z
    by_cases hb : b = a
    · subst hb
      rw [upd_same] at z
      exact ⟨rfl, (Option.some.inj z).symm⟩
    · rw [upd_ne hb] at z
      cases z
theorem walk_G {l : PySem.W.OpenLaw} {n k : Nat} {q : Program} {loose : List Str} {XP : (Str → Option Value) → Heap → Prop} {YP : World → Heap → Prop} {d : DefRec} {K : Params → PySem.W.Frag} {CX : CXT} {sp : PySem.W.Frag → Sp} {x : Str}
    (hn : l.most = some n) (hn2 : n ≤ sizeLine) (hdf : d.params.defaults = []) (hr : Room k callerA)
    (hY : ∀ (w : World) (h : Heap), YP w h → (K w.params).In h)
    (F : ∀ (w : World) (mg : Str → Option Value) (fa : Addr) (h : Heap), (K w.params).In h → h.Ns mainGlobals mg → mg d.name = some (.ref fa) →
      ∃ fd : FuncData, (∀ (s : Shared) (u : Value), BindsTo s fd ⟨[u], []⟩ [(x, u)]) ∧
        ∀ base : Heap, (K w.params).In base → base.Ns mainGlobals mg → base.NoDigits → FnG l.prog w (K w.params) mg base CX k fa fd [x] (sp (K w.params)))
    (hsp : ∀ (K : PySem.W.Frag) (H : Hp) (a : Addr) (ns : List Int), ns.length ≤ n → (∀ i ∈ ns, Builtin.Int.intBits i ≤ 1048576) → SqL K H a (ns.map V.int) → sp K [.ref a] H (fun v _ => v = .bl true) fun _ _ _ => False)
    (hCX : ∀ (H : Hp) (s : Shared) (e : Value) (s' : Shared), CX [] H s (fun _ _ _ => False) e s' → False) :
    PySem.W.WalkO q loose XP YP l.row.toRowW d [] (fun f vs => PySem.call f vs) := by
  refine Att.attach_callB hn hdf ?_
  intro w s₀ s₁ mg mb fa o pm cd doc a vs ns G Y ho hd hcd hmg hobj hints hlen hbits hg
  have KX := hY w _ Y
  obtain ⟨fd, hb, hF⟩ := F w mg fa _ KX G.T.g hmg
  exact law_G KX G.T.g G.T.nodigits G.T.b G.T.builtins G.T.nolimit hg hobj hints (Nat.le_trans hlen hn2) hr hF hb (fun H hS => hsp _ H a ns hlen hbits hS) (fun H e s' => hCX H s₁ e s')
end Wk
set_option Elab.async false
set_option maxRecDepth 100000
set_option maxHeartbeats 4000000
set_option linter.all false
/-! W4: operators, built-ins, repr -/
namespace Wk
open PySem L2
open PyProof.Rows hiding St
section
variable {μ : Type → Type} {τ : Type} [Mir μ τ] {α β γ δ ρ : Type} {p : Pt τ} {σ : St} {S H S0 H0 : Hp} {te ta tb : TE} {tt : TT} {K : PySem.W.Frag}

/-! ### whole numbers -/
theorem e_add {mA mB : (Int → μ β) → μ β} (ha : Ev p ta σ S H mA rI) (hb : Ev p tb σ S H mB rI) : Ev p (tOp (rI0 fun i j => .int (i + j)) ta tb) σ S H (fun k => mA fun i => mB fun j => k (i + j)) rI := e_op0 (D := fun i j => i + j) ha hb fun _ _ _ => rfl
theorem e_sub {mA mB : (Int → μ β) → μ β} (ha : Ev p ta σ S H mA rI) (hb : Ev p tb σ S H mB rI) : Ev p (tOp (rI0 fun i j => .int (i - j)) ta tb) σ S H (fun k => mA fun i => mB fun j => k (i - j)) rI := e_op0 (D := fun i j => i - j) ha hb fun _ _ _ => rfl
theorem e_mul {mA mB : (Int → μ β) → μ β} (ha : Ev p ta σ S H mA rI) (hb : Ev p tb σ S H mB rI) : Ev p (tOp (L2.rI CMulX fun i j => .int (i * j)) ta tb) σ S H (fun k => mA fun i => mB fun j => Mir.lft (grd (Sm i ∧ Sm j)) >>= fun _ => k (i * j)) rI :=
  e_opC (c := fun i j => Sm i ∧ Sm j) (D := fun i j => i * j) ha hb (fun _ _ h => Sm.mul h) fun _ _ _ _ => rfl
def Dv (j : Int) : Prop := 0 < j ∧ j.natAbs.log2 < 9000
instance (j : Int) : Decidable (Dv j) := inferInstanceAs (Decidable (_ ∧ _))
theorem e_fdiv {mA mB : (Int → μ β) → μ β} (ha : Ev p ta σ S H mA rI) (hb : Ev p tb σ S H mB rI) : Ev p (tOp (L2.rI CDivW fun i j => .int (i / j)) ta tb) σ S H (fun k => mA fun i => mB fun j => Mir.lft (grd (Dv j)) >>= fun _ => k (i / j)) rI :=
  e_opC (c := fun _ j => Dv j) (D := fun i j => i / j) ha hb (fun _ _ h => h) fun _ _ _ _ => rfl
theorem e_mod {mA mB : (Int → μ β) → μ β} (ha : Ev p ta σ S H mA rI) (hb : Ev p tb σ S H mB rI) : Ev p (tOp (L2.rI (fun _ j => 0 < j) fun i j => .int (i % j)) ta tb) σ S H (fun k => mA fun i => mB fun j => Mir.lft (grd (0 < j)) >>= fun _ => k (i % j)) rI :=
  e_opC (c := fun _ j => 0 < j) (D := fun i j => i % j) ha hb (fun _ _ h => h) fun _ _ _ _ => rfl
def Pw (i j : Int) : Prop := 0 ≤ j ∧ j ≤ 1000000 ∧ i.natAbs < 18446744073709551616
instance (i j : Int) : Decidable (Pw i j) := inferInstanceAs (Decidable (_ ∧ _))
theorem e_pow {mA mB : (Int → μ β) → μ β} (ha : Ev p ta σ S H mA rI) (hb : Ev p tb σ S H mB rI) : Ev p (tOp (L2.rI CPow fun i j => .int (i ^ j.toNat)) ta tb) σ S H (fun k => mA fun i => mB fun j => Mir.lft (grd (Pw i j)) >>= fun _ => k (i ^ j.toNat)) rI :=
  e_opC (c := Pw) (D := fun i j => i ^ j.toNat) ha hb (fun _ _ h => ⟨h.1, h.2.1, by have := h.2.2; omega⟩) fun _ _ _ _ => rfl
def Sl (i j : Int) : Prop := Sm i ∧ 0 ≤ j ∧ j ≤ 60000000
instance (i j : Int) : Decidable (Sl i j) := inferInstanceAs (Decidable (_ ∧ _))
theorem e_shl {mA mB : (Int → μ β) → μ β} (ha : Ev p ta σ S H mA rI) (hb : Ev p tb σ S H mB rI) : Ev p (tOp (L2.rI CShl fun i j => .int (i * 2 ^ j.toNat)) ta tb) σ S H (fun k => mA fun i => mB fun j => Mir.lft (grd (Sl i j)) >>= fun _ => k (i * 2 ^ j.toNat)) rI :=
  e_opC (c := Sl) (D := fun i j => i * 2 ^ j.toNat) ha hb (fun i _ h => ⟨h.2.1, by have := bits_log i; have := h.1; unfold Sm at this; have := h.2.2; omega⟩) fun _ _ _ _ => rfl
theorem e_shr {mA mB : (Int → μ β) → μ β} (ha : Ev p ta σ S H mA rI) (hb : Ev p tb σ S H mB rI) : Ev p (tOp (L2.rI (fun _ j => 0 ≤ j) fun i j => .int (i / 2 ^ j.toNat)) ta tb) σ S H (fun k => mA fun i => mB fun j => Mir.lft (grd (0 ≤ j)) >>= fun _ => k (i / 2 ^ j.toNat)) rI :=
  e_opC (c := fun _ j => 0 ≤ j) (D := fun i j => i / 2 ^ j.toNat) ha hb (fun _ _ h => h) fun _ _ _ _ => rfl
theorem e_band {mA mB : (Int → μ β) → μ β} (ha : Ev p ta σ S H mA rI) (hb : Ev p tb σ S H mB rI) : Ev p (tOp (rI0 fun i j => .int (Builtin.bitAnd i j)) ta tb) σ S H (fun k => mA fun i => mB fun j => k (Builtin.bitAnd i j)) rI := e_op0 (D := fun i j => Builtin.bitAnd i j) ha hb fun _ _ _ => rfl
theorem e_bor {mA mB : (Int → μ β) → μ β} (ha : Ev p ta σ S H mA rI) (hb : Ev p tb σ S H mB rI) : Ev p (tOp (rI0 fun i j => .int (Builtin.bitOr i j)) ta tb) σ S H (fun k => mA fun i => mB fun j => k (Builtin.bitOr i j)) rI := e_op0 (D := fun i j => Builtin.bitOr i j) ha hb fun _ _ _ => rfl
theorem e_neg {m : (Int → μ β) → μ β} (h : Ev p te σ S H m rI) : Ev p (tUn (L2.rU fun i => .int (-i)) te) σ S H (fun k => m fun i => k (-i)) rI := fun S1 H1 s g ps k z hm Q q =>
  h S1 H1 s g ps _ z hm _ fun i v S2 H2 s2 g2 p2 r hm2 => ⟨i, r, q _ _ S2 H2 s2 g2 p2 rfl hm2⟩
theorem e_lt {mA mB : (Int → μ β) → μ β} (ha : Ev p ta σ S H mA rI) (hb : Ev p tb σ S H mB rI) : Ev p (tOp (rI0 fun i j => .bl (decide (i < j))) ta tb) σ S H (fun k => mA fun i => mB fun j => k (decide (i < j))) rB := e_op0 (D := fun i j => decide (i < j)) ha hb fun _ _ _ => rfl
theorem e_le {mA mB : (Int → μ β) → μ β} (ha : Ev p ta σ S H mA rI) (hb : Ev p tb σ S H mB rI) : Ev p (tOp (rI0 fun i j => .bl (decide (i ≤ j))) ta tb) σ S H (fun k => mA fun i => mB fun j => k (decide (i ≤ j))) rB := e_op0 (D := fun i j => decide (i ≤ j)) ha hb fun _ _ _ => rfl
theorem e_gt {mA mB : (Int → μ β) → μ β} (ha : Ev p ta σ S H mA rI) (hb : Ev p tb σ S H mB rI) : Ev p (tOp (rI0 fun i j => .bl (decide (j < i))) ta tb) σ S H (fun k => mA fun i => mB fun j => k (decide (j < i))) rB := e_op0 (D := fun i j => decide (j < i)) ha hb fun _ _ _ => rfl
theorem e_ge {mA mB : (Int → μ β) → μ β} (ha : Ev p ta σ S H mA rI) (hb : Ev p tb σ S H mB rI) : Ev p (tOp (rI0 fun i j => .bl (decide (j ≤ i))) ta tb) σ S H (fun k => mA fun i => mB fun j => k (decide (j ≤ i))) rB := e_op0 (D := fun i j => decide (j ≤ i)) ha hb fun _ _ _ => rfl

/-! ### flat values that are equal -/
class Fl {α : Type} (R : Rp α) where
  c : α → V
  is : ∀ a v S, R a v S ↔ v = c a
  sc : ∀ a b, scal (c a) (c b) = true
  inj : ∀ a b, c a = c b → a = b
instance : Fl rI := ⟨V.int, fun _ _ _ => Iff.rfl, fun _ _ => rfl, fun _ _ h => V.int.inj h⟩
instance : Fl rB := ⟨V.bl, fun _ _ _ => Iff.rfl, fun _ _ => rfl, fun _ _ h => V.bl.inj h⟩
instance : Fl rS := ⟨V.str, fun _ _ _ => Iff.rfl, fun _ _ => rfl, fun _ _ h => V.str.inj h⟩
theorem Fl.dec {R : Rp α} [Fl R] [DecidableEq α] (a b : α) : decide (Fl.c R a = Fl.c R b) = decide (a = b) := by
  by_cases h : a = b
  · subst h; simp
  · rw [decide_eq_false h, decide_eq_false fun e => h (Fl.inj _ _ e)]
theorem e_eq {R : Rp α} [Fl R] [DecidableEq α] {mA mB : (α → μ β) → μ β} (ha : Ev p ta σ S H mA R) (hb : Ev p tb σ S H mB R) : Ev p (tOp rEq ta tb) σ S H (fun k => mA fun i => mB fun j => k (decide (i = j))) rB := fun S1 H1 s g ps k z hm Q q =>
  ha S1 H1 s g ps _ z hm _ fun i v S2 H2 s2 g2 p2 r2 hm2 => hb S2 H2 s2 (g.tr g2) p2 _ z hm2 _ fun j u S3 H3 s3 g3 p3 r3 hm3 => by
    have e1 := (Fl.is i v S2).mp r2
    have e2 := (Fl.is j u S3).mp r3
    subst e1
    subst e2
    exact ⟨Fl.sc i j, q _ _ S3 H3 s3 (g2.tr g3) p3 (by show V.bl _ = V.bl _; rw [Fl.dec]) hm3⟩
theorem e_ne {R : Rp α} [Fl R] [DecidableEq α] {mA mB : (α → μ β) → μ β} (ha : Ev p ta σ S H mA R) (hb : Ev p tb σ S H mB R) : Ev p (tOp rNe ta tb) σ S H (fun k => mA fun i => mB fun j => k (!decide (i = j))) rB := fun S1 H1 s g ps k z hm Q q =>
  ha S1 H1 s g ps _ z hm _ fun i v S2 H2 s2 g2 p2 r2 hm2 => hb S2 H2 s2 (g.tr g2) p2 _ z hm2 _ fun j u S3 H3 s3 g3 p3 r3 hm3 => by
    have e1 := (Fl.is i v S2).mp r2
    have e2 := (Fl.is j u S3).mp r3
    subst e1
    subst e2
    exact ⟨Fl.sc i j, q _ _ S3 H3 s3 (g2.tr g3) p3 (by show V.bl _ = V.bl _; rw [Fl.dec]) hm3⟩
/-- is None, is not None of what may be None -/
class NN {α : Type} (R : Rp α) : Prop where
  nn : ∀ a v S, R a v S → v ≠ .non
instance : NN rI := ⟨fun _ _ _ h e => by rw [show _ = V.int _ from h] at e; cases e⟩
instance : NN rB := ⟨fun _ _ _ h e => by rw [show _ = V.bl _ from h] at e; cases e⟩
instance : NN rS := ⟨fun _ _ _ h e => by rw [show _ = V.str _ from h] at e; cases e⟩
instance {A : Rq α} : NN (rT K A) := ⟨fun _ _ _ ⟨_, _, h, _⟩ e => by rw [h] at e; cases e⟩
instance {A : Rq α} : NN (rL A) := ⟨fun _ _ _ ⟨_, _, h, _⟩ e => by rw [h] at e; cases e⟩
theorem isN_dec {R : Rp α} [NN R] {a : Option α} {v : V} (r : rO R a v S) : decide (v = .non) = a.isNone := by
  cases a with
  | none => rw [show v = .non from r]; rfl
  | some x => rw [decide_eq_false (NN.nn x v S r)]; rfl
theorem e_isN {R : Rp α} [NN R] {m : (Option α → μ β) → μ β} (h : Ev p te σ S H m (rO R)) : Ev p (tOp (fun x y H Q => y = .non ∧ Q (.bl (decide (x = .non))) H) te (tC .non)) σ S H (fun k => m fun a => k a.isNone) rB := fun S1 H1 s g ps k z hm Q q =>
  h S1 H1 s g ps _ z hm _ fun a v S2 H2 s2 g2 p2 r hm2 => ⟨rfl, q _ _ S2 H2 s2 g2 p2 (by show V.bl _ = V.bl _; rw [isN_dec r]) hm2⟩
theorem e_notN {R : Rp α} [NN R] {m : (Option α → μ β) → μ β} (h : Ev p te σ S H m (rO R)) : Ev p (tOp (fun x y H Q => y = .non ∧ Q (.bl (!decide (x = .non))) H) te (tC .non)) σ S H (fun k => m fun a => k (!a.isNone)) rB := fun S1 H1 s g ps k z hm Q q =>
  h S1 H1 s g ps _ z hm _ fun a v S2 H2 s2 g2 p2 r hm2 => ⟨rfl, q _ _ S2 H2 s2 g2 p2 (by show V.bl _ = V.bl _; rw [isN_dec r]) hm2⟩

/-! ### places -/
theorem All.atI {R : Rp α} {xs : List α} {vs : List V} {i : Int} {x : α} (h : All R S xs vs) (e : L2.atI xs i = some x) : ∃ v, L2.atI vs i = some v ∧ R x v S := by
  unfold L2.atI at e ⊢
  rw [h.len] at e
  cases q : ixN vs.length i with
  | none => rw [q] at e; cases e
  | some j =>
    rw [q] at e
    obtain ⟨v, h1, h2⟩ := h.get (i := j) (x := x) e
    exact ⟨v, h1, h2⟩
theorem e_ixL {R : Rp α} [Mo R] {mA : (List α → μ β) → μ β} {mB : (Int → μ β) → μ β} (ha : EvR p ta σ S H mA (aAll R)) (hb : Ev p tb σ S H mB rI) : Ev p (tOp (rIxL K) ta tb) σ S H (fun k => mA fun xs => mB fun i => Mir.lft (L2.atI xs i) >>= k) R := fun S1 H1 s g ps k z hm Q q =>
  ha S1 H1 s g ps _ z hm _ fun xs x vs S2 H2 s2 g2 p2 e2 m2 r2 hm2 => hb S2 H2 s2 (g.tr g2) p2 _ z hm2 _ fun i u S3 H3 s3 g3 p3 r3 hm3 => by
    obtain ⟨a, e, hm4⟩ := run_of_lft hm3
    have r2' := All.mo g3.s (show All R S2 xs vs from r2)
    obtain ⟨v, e4, r4⟩ := r2'.atI e
    cases (show u = .int i from r3)
    exact ⟨x, vs, i, v, rfl, rfl, .of (g3.h _ _ m2 e2), e4, q a v S3 H3 s3 (g2.tr g3) p3 r4 hm4⟩
theorem e_ixT {R : Rp α} [Mo R] {mA : (List α → μ β) → μ β} {mB : (Int → μ β) → μ β} (ha : Ev p ta σ S H mA (rT K (aAll R))) (hb : Ev p tb σ S H mB rI) : Ev p (tOp (rIxT K) ta tb) σ S H (fun k => mA fun xs => mB fun i => Mir.lft (L2.atI xs i) >>= k) R := fun S1 H1 s g ps k z hm Q q =>
  ha S1 H1 s g ps _ z hm _ fun xs v S2 H2 s2 g2 p2 ⟨x, vs, e2, h2, r2⟩ hm2 => hb S2 H2 s2 (g.tr g2) p2 _ z hm2 _ fun i u S3 H3 s3 g3 p3 r3 hm3 => by
    obtain ⟨a, e, hm4⟩ := run_of_lft hm3
    have r2' := All.mo g3.s (show All R S2 xs vs from r2)
    obtain ⟨v, e4, r4⟩ := r2'.atI e
    cases (show u = .int i from r3)
    exact ⟨x, vs, i, v, e2, rfl, sqT_ex (g3.s.tr g3.i) h2, e4, q a v S3 H3 s3 (g2.tr g3) p3 r4 hm4⟩
/-- a written place of a thing of a known make -/
theorem e_ixC {A : Rq α} {R : Rp γ} {n : Int} {f : α → γ} {mA : (α → μ β) → μ β} {mB : (Int → μ β) → μ β} (ha : Ev p ta σ S H mA (rT K A)) (hb : tb = tC (.int n)) (hn : ∀ a vs S, A a vs S → ∃ v, L2.atI vs n = some v ∧ R (f a) v S) : Ev p (tOp (rIxT K) ta tb) σ S H (fun k => mA fun a => k (f a)) R := fun S1 H1 s g ps k z hm Q q =>
  ha S1 H1 s g ps _ z hm _ fun a v S2 H2 s2 g2 p2 ⟨x, vs, e2, h2, r2⟩ hm2 => by
    subst hb
    obtain ⟨u, e4, r4⟩ := hn a vs S2 r2
    exact ⟨x, vs, n, u, e2, rfl, sqT_ex g2.i h2, e4, q _ u S2 H2 s2 g2 p2 r4 hm2⟩
theorem e_ixCL {A : Rq α} {R : Rp γ} {n : Int} {f : α → γ} {mA : (α → μ β) → μ β} (ha : EvR p ta σ S H mA A) (hb : tb = tC (.int n)) (hn : ∀ a vs S, A a vs S → ∃ v, L2.atI vs n = some v ∧ R (f a) v S) : Ev p (tOp (rIxL K) ta tb) σ S H (fun k => mA fun a => k (f a)) R := fun S1 H1 s g ps k z hm Q q =>
  ha S1 H1 s g ps _ z hm _ fun a x vs S2 H2 s2 g2 p2 e2 m2 r2 hm2 => by
    subst hb
    obtain ⟨u, e4, r4⟩ := hn a vs S2 r2
    exact ⟨x, vs, n, u, rfl, rfl, .of e2, e4, q _ u S2 H2 s2 g2 p2 r4 hm2⟩

/-! ### built-in functions -/
theorem c_lenL {R : Rp α} {m : (List α → μ β) → μ β} (h : EvR p te σ S H m (aAll R)) : Ev p (tCB (fun xs H Q => ∃ p ys, xs = [.ref p] ∧ (SqL K H p ys ∨ SqT K H p ys) ∧ Q (.int ys.length) H) (tCons te tNil)) σ S H (fun k => m fun xs => k (xs.length : Int)) rI := fun S1 H1 s g ps k z hm Q q =>
  h S1 H1 s g ps _ z hm _ fun xs x vs S2 H2 s2 g2 p2 e2 m2 r2 hm2 => ⟨x, vs, rfl, .inl (.of e2), q _ _ S2 H2 s2 g2 p2 (by show V.int _ = V.int _; rw [All.len (show All R S2 xs vs from r2)]) hm2⟩
theorem c_lenT {R : Rp α} {m : (List α → μ β) → μ β} (h : Ev p te σ S H m (rT K (aAll R))) : Ev p (tCB (fun xs H Q => ∃ p ys, xs = [.ref p] ∧ (SqL K H p ys ∨ SqT K H p ys) ∧ Q (.int ys.length) H) (tCons te tNil)) σ S H (fun k => m fun xs => k (xs.length : Int)) rI := fun S1 H1 s g ps k z hm Q q =>
  h S1 H1 s g ps _ z hm _ fun xs v S2 H2 s2 g2 p2 ⟨x, vs, e2, h2, r2⟩ hm2 => ⟨x, vs, by rw [e2], .inr (sqT_ex g2.i h2), q _ _ S2 H2 s2 g2 p2 (by show V.int _ = V.int _; rw [All.len (show All R S2 xs vs from r2)]) hm2⟩
theorem c_sum {m : (List Int → μ β) → μ β} (h : EvR p te σ S H m (aAll rI)) : Ev p (tCB (rSum K) (tCons te tNil)) σ S H (fun k => m fun xs => k xs.sum) rI := fun S1 H1 s g ps k z hm Q q =>
  h S1 H1 s g ps _ z hm _ fun xs x vs S2 H2 s2 g2 p2 e2 m2 r2 hm2 => ⟨x, xs, rfl, .of (by rw [e2, All.ints r2]), q _ _ S2 H2 s2 g2 p2 rfl hm2⟩
theorem min_one {xs : List Int} {a m : Int} (h : xs.min? = some a) (h1 : m ∈ xs) (h2 : ∀ y, y ∈ xs → m ≤ y) : m = a := by
  have := List.min?_eq_some_iff.mp h
  exact Int.le_antisymm (h2 a this.1) (this.2 m h1)
theorem max_one {xs : List Int} {a m : Int} (h : xs.max? = some a) (h1 : m ∈ xs) (h2 : ∀ y, y ∈ xs → y ≤ m) : m = a := by
  have := List.max?_eq_some_iff.mp h
  exact Int.le_antisymm (this.2 m h1) (h2 a this.1)
theorem c_min {m : (List Int → μ β) → μ β} (h : EvR p te σ S H m (aAll rI)) : Ev p (tCB (rMin K) (tCons te tNil)) σ S H (fun k => m fun xs => Mir.lft xs.min? >>= k) rI := fun S1 H1 s g ps k z hm Q q =>
  h S1 H1 s g ps _ z hm _ fun xs x vs S2 H2 s2 g2 p2 e2 m2 r2 hm2 => by
    obtain ⟨a, e, hm3⟩ := run_of_lft hm2
    refine ⟨x, xs, rfl, .of (by rw [e2, All.ints r2]), ?_, fun n h1 h2 => q a _ S2 H2 s2 g2 p2 (by rw [min_one e h1 h2]; rfl) hm3⟩
    cases xs with
    | nil => cases e
    | cons _ _ => simp
theorem c_max {m : (List Int → μ β) → μ β} (h : EvR p te σ S H m (aAll rI)) : Ev p (tCB (rMax K) (tCons te tNil)) σ S H (fun k => m fun xs => Mir.lft xs.max? >>= k) rI := fun S1 H1 s g ps k z hm Q q =>
  h S1 H1 s g ps _ z hm _ fun xs x vs S2 H2 s2 g2 p2 e2 m2 r2 hm2 => by
    obtain ⟨a, e, hm3⟩ := run_of_lft hm2
    refine ⟨x, xs, rfl, .of (by rw [e2, All.ints r2]), ?_, fun n h1 h2 => q a _ S2 H2 s2 g2 p2 (by rw [max_one e h1 h2]; rfl) hm3⟩
    cases xs with
    | nil => cases e
    | cons _ _ => simp
theorem c_min2 {mA mB : (Int → μ β) → μ β} (ha : Ev p ta σ S H mA rI) (hb : Ev p tb σ S H mB rI) : Ev p (tCB (fun xs H Q => ∃ i j, xs = [.int i, .int j] ∧ Q (.int (if j < i then j else i)) H) (tCons ta (tCons tb tNil))) σ S H (fun k => mA fun i => mB fun j => k (if j < i then j else i)) rI := fun S1 H1 s g ps k z hm Q q =>
  ha S1 H1 s g ps _ z hm _ fun i v S2 H2 s2 g2 p2 r2 hm2 => hb S2 H2 s2 (g.tr g2) p2 _ z hm2 _ fun j u S3 H3 s3 g3 p3 r3 hm3 => ⟨i, j, by rw [show v = .int i from r2, show u = .int j from r3], q _ _ S3 H3 s3 (g2.tr g3) p3 rfl hm3⟩
theorem c_max2 {mA mB : (Int → μ β) → μ β} (ha : Ev p ta σ S H mA rI) (hb : Ev p tb σ S H mB rI) : Ev p (tCB (fun xs H Q => ∃ i j, xs = [.int i, .int j] ∧ Q (.int (if j > i then j else i)) H) (tCons ta (tCons tb tNil))) σ S H (fun k => mA fun i => mB fun j => k (if j > i then j else i)) rI := fun S1 H1 s g ps k z hm Q q =>
  ha S1 H1 s g ps _ z hm _ fun i v S2 H2 s2 g2 p2 r2 hm2 => hb S2 H2 s2 (g.tr g2) p2 _ z hm2 _ fun j u S3 H3 s3 g3 p3 r3 hm3 => ⟨i, j, by rw [show v = .int i from r2, show u = .int j from r3], q _ _ S3 H3 s3 (g2.tr g3) p3 rfl hm3⟩
theorem c_abs {m : (Int → μ β) → μ β} (h : Ev p te σ S H m rI) : Ev p (tCB (fun xs H Q => ∃ i, xs = [.int i] ∧ Q (.int (if i < 0 then -i else i)) H) (tCons te tNil)) σ S H (fun k => m fun i => k (if i < 0 then -i else i)) rI := fun S1 H1 s g ps k z hm Q q =>
  h S1 H1 s g ps _ z hm _ fun i v S2 H2 s2 g2 p2 r2 hm2 => ⟨i, by rw [show v = .int i from r2], q _ _ S2 H2 s2 g2 p2 rfl hm2⟩
theorem c_int {m : (Int → μ β) → μ β} (h : Ev p te σ S H m rI) : Ev p (tCB (fun xs H Q => (∃ i, xs = [.int i] ∧ Q (.int i) H) ∨ ∃ k, xs = [.bl k] ∧ Q (.int (if k then 1 else 0)) H) (tCons te tNil)) σ S H (fun k => m fun i => k i) rI := fun S1 H1 s g ps k z hm Q q =>
  h S1 H1 s g ps _ z hm _ fun i v S2 H2 s2 g2 p2 r2 hm2 => .inl ⟨i, by rw [show v = .int i from r2], q _ _ S2 H2 s2 g2 p2 rfl hm2⟩
theorem c_intB {m : (Bool → μ β) → μ β} (h : Ev p te σ S H m rB) : Ev p (tCB (fun xs H Q => (∃ i, xs = [.int i] ∧ Q (.int i) H) ∨ ∃ k, xs = [.bl k] ∧ Q (.int (if k then 1 else 0)) H) (tCons te tNil)) σ S H (fun k => m fun b => k (if b then 1 else 0)) rI := fun S1 H1 s g ps k z hm Q q =>
  h S1 H1 s g ps _ z hm _ fun b v S2 H2 s2 g2 p2 r2 hm2 => .inr ⟨b, by rw [show v = .bl b from r2], q _ _ S2 H2 s2 g2 p2 rfl hm2⟩
theorem c_all {m : (List Bool → μ β) → μ β} (h : EvR p te σ S H m (aAll rB)) : Ev p (tCB (rAll K) (tCons te tNil)) σ S H (fun k => m fun xs => k (xs.all id)) rB := fun S1 H1 s g ps k z hm Q q =>
  h S1 H1 s g ps _ z hm _ fun xs x vs S2 H2 s2 g2 p2 e2 m2 r2 hm2 => ⟨x, xs, rfl, .of (by rw [e2, All.bools r2]), q _ _ S2 H2 s2 g2 p2 rfl hm2⟩
theorem c_any {m : (List Bool → μ β) → μ β} (h : EvR p te σ S H m (aAll rB)) : Ev p (tCB (rAny K) (tCons te tNil)) σ S H (fun k => m fun xs => k (xs.any id)) rB := fun S1 H1 s g ps k z hm Q q =>
  h S1 H1 s g ps _ z hm _ fun xs x vs S2 H2 s2 g2 p2 e2 m2 r2 hm2 => ⟨x, xs, rfl, .of (by rw [e2, All.bools r2]), q _ _ S2 H2 s2 g2 p2 rfl hm2⟩
def rTupOf (K : PySem.W.Frag) : List V → Hp → VK → Prop := fun xs H Q => ∃ p ys, xs = [.ref p] ∧ ((SqL K H p ys ∧ ∀ l, H l = none → Q (.ref l) (upd H l (.tup ys))) ∨ (SqT K H p ys ∧ Q (.ref p) H))
theorem c_tup {A : Rq α} [Mo A] {m : (α → μ β) → μ β} (h : EvR p te σ S H m A) : Ev p (tCB (rTupOf K) (tCons te tNil)) σ S H m (rT K A) := fun S1 H1 s g ps k z hm Q q =>
  h S1 H1 s g ps _ z hm _ fun xs x vs S2 H2 s2 g2 p2 e2 m2 r2 hm2 => ⟨x, vs, rfl, .inl ⟨.of e2, fun y hy =>
    have g3 : Gm p.M S2 H2 (upd S2 y (.tup vs)) (upd H2 y (.tup vs)) := Gm.new g2.i hy
    q xs _ _ _ s2 (g2.tr g3) (p2.go (Gm.new g2.i hy)) ⟨y, vs, rfl, .of upd_same, Mo.mo g3.s r2⟩ hm2⟩⟩
theorem l_list {A : Rq α} {m : (α → μ β) → μ β} (h : EvR p te σ S H m A) : EvL p (tCB (fun xs H Q => ∃ p ys, xs = [.ref p] ∧ (SqL K H p ys ∨ SqT K H p ys) ∧ ∀ l, H l = none → Q (.ref l) (upd H l (.lst ys))) (tCons te tNil)) σ S H m A := fun S1 H1 s g ps k z hm Q q =>
  h S1 H1 s g ps _ z hm _ fun xs x vs S2 H2 s2 g2 p2 e2 m2 r2 hm2 => ⟨x, vs, rfl, .inl (.of e2), fun y hy => by
    have n1 : H1 y = none := by
      cases e : H1 y with
      | none => rfl
      | some u => obtain ⟨u', e'⟩ := g2.t y u e; rw [hy] at e'; cases e'
    exact q xs y vs S2 _ s2 (g2.tr (Gm.own g2.i hy)) (p2.go (Gm.own g2.i hy)) n1 upd_same (g2.i.no hy) (new_nM p2 hy) r2 hm2⟩
theorem l_listT {A : Rq α} {m : (α → μ β) → μ β} (h : Ev p te σ S H m (rT K A)) : EvL p (tCB (fun xs H Q => ∃ p ys, xs = [.ref p] ∧ (SqL K H p ys ∨ SqT K H p ys) ∧ ∀ l, H l = none → Q (.ref l) (upd H l (.lst ys))) (tCons te tNil)) σ S H m A := fun S1 H1 s g ps k z hm Q q =>
  h S1 H1 s g ps _ z hm _ fun xs v S2 H2 s2 g2 p2 ⟨x, vs, e2, h2, r2⟩ hm2 => ⟨x, vs, by rw [e2], .inr (sqT_ex g2.i h2), fun y hy => by
    have n1 : H1 y = none := by
      cases e : H1 y with
      | none => rfl
      | some u => obtain ⟨u', e'⟩ := g2.t y u e; rw [hy] at e'; cases e'
    exact q xs y vs S2 _ s2 (g2.tr (Gm.own g2.i hy)) (p2.go (Gm.own g2.i hy)) n1 upd_same (g2.i.no hy) (new_nM p2 hy) r2 hm2⟩
/-- lists one behind another -/
theorem l_cat {R : Rp α} [Mo R] {mA mB : (List α → μ β) → μ β} (ha : EvR p ta σ S H mA (aAll R)) (hb : EvR p tb σ S H mB (aAll R)) : EvL p (tOp rCat ta tb) σ S H (fun k => mA fun xs => mB fun ys => Mir.lft (grd (xs.length + ys.length ≤ 16000000)) >>= fun _ => k (xs ++ ys)) (aAll R) := fun S1 H1 s g ps k z hm Q q =>
  ha S1 H1 s g ps _ z hm _ fun xs x vs S2 H2 s2 g2 p2 e2 m2 r2 hm2 => hb S2 H2 s2 (g.tr g2) p2 _ z hm2 _ fun ys y us S3 H3 s3 g3 p3 e3 m3 r3 hm3 => by
    obtain ⟨_, e, hm4⟩ := run_of_lft hm3
    have hl := grd_of e
    have a2 := All.mo g3.s (show All R S2 xs vs from r2)
    have a3 : All R S3 ys us := r3
    refine ⟨x, y, vs, us, rfl, rfl, g3.h _ _ m2 e2, e3, by rw [← a2.len, ← a3.len, sizeLine_eq]; omega, fun l hl => ?_⟩
    have n1 : H1 l = none := by
      cases e : H1 l with
      | none => rfl
      | some u => obtain ⟨u', e'⟩ := (g2.tr g3).t l u e; rw [hl] at e'; cases e'
    exact q _ l _ S3 _ s3 ((g2.tr g3).tr (Gm.own g3.i hl)) (p3.go (Gm.own g3.i hl)) n1 upd_same (g3.i.no hl) (new_nM p3 hl) (a2.app a3) hm4
theorem All.reps {R : Rp α} {xs : List α} {vs : List V} (h : All R S xs vs) : ∀ n : Nat, All R S (List.replicate n xs).flatten (List.replicate n vs).flatten
  | 0 => .nil
  | n + 1 => by
    rw [List.replicate_succ, List.replicate_succ, List.flatten_cons, List.flatten_cons]
    exact h.app (All.reps h n)
def RpB (n : Nat) (k : Int) : Prop := -(2 ^ 62) ≤ k ∧ k < 2 ^ 62 ∧ n * k.toNat ≤ 16000000
instance (n : Nat) (k : Int) : Decidable (RpB n k) := inferInstanceAs (Decidable (_ ∧ _))
theorem l_rep {R : Rp α} [Mo R] {mA : (List α → μ β) → μ β} {mB : (Int → μ β) → μ β} (ha : EvR p ta σ S H mA (aAll R)) (hb : Ev p tb σ S H mB rI) : EvL p (tOp rRep ta tb) σ S H (fun k => mA fun xs => mB fun n => Mir.lft (grd (RpB xs.length n)) >>= fun _ => k (List.replicate n.toNat xs).flatten) (aAll R) := fun S1 H1 s g ps k z hm Q q =>
  ha S1 H1 s g ps _ z hm _ fun xs x vs S2 H2 s2 g2 p2 e2 m2 r2 hm2 => hb S2 H2 s2 (g.tr g2) p2 _ z hm2 _ fun n u S3 H3 s3 g3 p3 r3 hm3 => by
    obtain ⟨_, e, hm4⟩ := run_of_lft hm3
    have hl := grd_of e
    have a2 := All.mo g3.s (show All R S2 xs vs from r2)
    cases (show u = .int n from r3)
    have l1 := hl.1
    have l2 := hl.2.1
    have l3 := hl.2.2
    rw [a2.len] at l3
    refine ⟨x, n, vs, rfl, rfl, g3.h _ _ m2 e2, by omega, by omega, by rw [sizeLine_eq]; omega, fun l hl => ?_⟩
    have n1 : H1 l = none := by
      cases e : H1 l with
      | none => rfl
      | some u => obtain ⟨u', e'⟩ := (g2.tr g3).t l u e; rw [hl] at e'; cases e'
    exact q _ l _ S3 _ s3 ((g2.tr g3).tr (Gm.own g3.i hl)) (p3.go (Gm.own g3.i hl)) n1 upd_same (g3.i.no hl) (new_nM p3 hl) (a2.reps _) hm4
/-- x in (a, b), x in xs: whole numbers -/
theorem inV_ints (x : Int) (xs : List Int) : inV (.int x) (xs.map V.int) = xs.contains x := by
  unfold inV
  rw [List.any_map]
  rw [List.contains_eq_any_beq]
  congr 1
  funext y
  show (y == x) = (x == y)
  rw [Bool.beq_comm]
theorem flat_ints (xs : List Int) : (xs.map V.int).all flatV = true := by
  rw [List.all_map]
  simp [flatV]
theorem e_inL {neg : Bool} {mA : (Int → μ β) → μ β} {mB : (List Int → μ β) → μ β} (ha : Ev p ta σ S H mA rI) (hb : EvR p tb σ S H mB (aAll rI)) : Ev p (tOp (rIn K neg) ta tb) σ S H (fun k => mA fun x => mB fun xs => k (if neg = true then !xs.contains x else xs.contains x)) rB := fun S1 H1 s g ps k z hm Q q =>
  ha S1 H1 s g ps _ z hm _ fun x v S2 H2 s2 g2 p2 r2 hm2 => hb S2 H2 s2 (g.tr g2) p2 _ z hm2 _ fun xs y us S3 H3 s3 g3 p3 e3 m3 r3 hm3 => by
    cases (show v = .int x from r2)
    have e4 := All.ints r3
    subst e4
    exact ⟨y, _, rfl, .inl (.of e3), rfl, flat_ints xs, q _ _ S3 H3 s3 (g2.tr g3) p3 (by rw [inV_ints]; rfl) hm3⟩
theorem e_inT {neg : Bool} {mA : (Int → μ β) → μ β} {mB : (List Int → μ β) → μ β} (ha : Ev p ta σ S H mA rI) (hb : Ev p tb σ S H mB (rT K (aAll rI))) : Ev p (tOp (rIn K neg) ta tb) σ S H (fun k => mA fun x => mB fun xs => k (if neg = true then !xs.contains x else xs.contains x)) rB := fun S1 H1 s g ps k z hm Q q =>
  ha S1 H1 s g ps _ z hm _ fun x v S2 H2 s2 g2 p2 r2 hm2 => hb S2 H2 s2 (g.tr g2) p2 _ z hm2 _ fun xs u S3 H3 s3 g3 p3 ⟨y, us, e3, h3, r3⟩ hm3 => by
    cases (show v = .int x from r2)
    have e4 := All.ints r3
    subst e4
    exact ⟨y, _, e3, .inr (sqT_ex g3.i h3), rfl, flat_ints xs, q _ _ S3 H3 s3 (g2.tr g3) p3 (by rw [inV_ints]; rfl) hm3⟩

/-! ### repr -/
class Dt (K : PySem.W.Frag) {α β : Type} (R : α → β → Hp → Prop) (δ : outParam (α → PyData)) : Prop where
  dt : True
/-- what a value is as data -/
def isD (K : PySem.W.Frag) (R : Rp α) (d : α → PyData) : Prop := ∀ a v S H, R a v S → Ex S H → Dp K H v (d a)
def isDs (K : PySem.W.Frag) (A : Rq α) (d : α → List PyData) : Prop := ∀ a vs S H, A a vs S → Ex S H → DpAll K H vs (d a)
theorem d_I : isD K rI .int := fun a v _ _ h _ => by rw [show v = .int a from h]; exact .int a
theorem d_B : isD K rB .bool := fun a v _ _ h _ => by rw [show v = .bl a from h]; exact .bl a
theorem d_S : isD K rS .str := fun a v _ _ h _ => by rw [show v = .str a from h]; exact .str a
theorem d_N : isD K rN fun _ => .none := fun a v _ _ h _ => by rw [show v = .non from h]; exact .non
def dO (d : α → PyData) : Option α → PyData
  | none => .none
  | some a => d a
theorem d_O {R : Rp α} {d : α → PyData} (h : isD K R d) : isD K (rO R) (dO d) := fun a v S H r e => by
  cases a with
  | none => rw [show v = .non from r]; exact .non
  | some x => exact h x v S H r e
def dU (d : α → PyData) (d' : γ → PyData) : α ⊕ γ → PyData
  | .inl a => d a
  | .inr b => d' b
theorem d_U {R : Rp α} {R' : Rp γ} {d : α → PyData} {d' : γ → PyData} (h : isD K R d) (h' : isD K R' d') : isD K (rU R R') (dU d d') := fun a v S H r e => by
  cases a with
  | inl x => exact h x v S H r e
  | inr x => exact h' x v S H r e
theorem ds_nil : isDs K aNil fun _ => [] := fun _ vs _ _ h _ => by rw [show vs = [] from h]; exact .nil
theorem ds_one {R : Rp α} {d : α → PyData} (h : isD K R d) : isDs K (aOne R) fun a => [d a] := fun a vs S H ⟨v, e1, r⟩ e => by rw [e1]; exact .cons (h a v S H r e) .nil
theorem ds_cons {R : Rp α} {A : Rq γ} {d : α → PyData} {ds : γ → List PyData} (h : isD K R d) (h' : isDs K A ds) : isDs K (aCons R A) fun a => d a.1 :: ds a.2 := fun a vs S H ⟨v, r, e1, r1, r2⟩ e => by rw [e1]; exact .cons (h _ v S H r1 e) (h' _ r S H r2 e)
theorem ds_all {R : Rp α} {d : α → PyData} (h : isD K R d) : isDs K (aAll R) fun xs => xs.map d := fun xs vs S H r e => by
  have go : ∀ {xs : List α} {vs : List V}, All R S xs vs → DpAll K H vs (xs.map d) := by
    intro xs vs r
    induction r with
    | nil => exact .nil
    | cons r _ ih => exact .cons (h _ _ S H r e) ih
  exact go r
theorem d_T {A : Rq α} {ds : α → List PyData} (h : isDs K A ds) : isD K (rT K A) fun a => .tuple (ds a) := fun a v S H ⟨x, vs, e1, h1, r⟩ e => by rw [e1]; exact .tup (sqT_ex e h1) (h a vs S H r e)
theorem d_L {A : Rq α} {ds : α → List PyData} (h : isDs K A ds) : isD K (rL A) fun a => .list (ds a) := fun a v S H ⟨x, vs, e1, h1, r⟩ e => by rw [e1]; exact .lst (.of (e _ _ h1)) (h a vs S H r e)
end

/-! ### repr, ints of some thousand figures too -/
section
variable {prog : Program} {w : World} {A : Around} {E : Value → Shared → Prop} {s : Shared} {h₀ : Heap}
theorem lt_lim {a : Nat} (h : a.log2 < 12900) : a < 10 ^ 4300 := Nat.lt_of_lt_of_le (PyProof.Rows.lt_of_log2 h) PyProof.Rows.pow_lo
set_option maxRecDepth 100000 in
theorem call_int_reprB {a : Int} {t : Tok} {Q : Value → Shared → Prop} (hn : s.heap.NoDigits) (ha : a.natAbs.log2 < 12900) (h : Q (.str (toString a) s.toks) { s with toks := s.toks + 1 }) :
    wpAny (model prog w) A (call (.builtin "int.__repr__") [.int a t]) Q E s := by
  refine wpAny_call (codeAny_call_builtin F.slot_int_repr.plain F.entry_int_repr (F.slot_int_repr.check _ _ _ _ _ _ _ _ (typeIs_int _ a t) (F.args_int_repr_1 _) ?_))
  unfold Builtin.«int.__repr__»
  show wpAny _ _ (do let r ← Builtin.overDigitLimit? a; _) _ _ s
  refine wpAny_bind (overDigitLimit_any hn (fun hlt => ?_) (fun hge => ?_))
  · exact wpAny_bind (wpAny_mkStr (wpAny_pure h) (by have e := int_text_length_le (k := 12900) (by decide) ha; rw [PySem.ofString_length, sizeLine_eq]; omega))
  · have hlt := lt_lim ha
    exact absurd hlt (Nat.not_lt.mpr hge)
theorem pyReprObj_intB {a : Int} {t : Tok} {Q : Value → Shared → Prop} (hn : s.heap.NoDigits) (ha : a.natAbs.log2 < 12900) (h : Q (.str (toString a) s.toks) { s with toks := s.toks + 1 }) : wpAny (model prog w) A (pyReprObj (.int a t)) Q E s := by
  unfold pyReprObj
  have hv : ([.int a t] : List Value).any Value.onHeap = false := rfl
  simp only [cRoomFor, hv, Bool.false_eq_true, if_false, pure_bind]
  refine wpAny_bind (wpAny_specialOf (name := Str.ofString "__repr__") (typeIs_int s a t) F.slot_int_repr.lookup ?_)
  refine wpAny_bind (m := callSpecialIfBound? (.int a t) (Str.ofString "__repr__")) (wpAny_callSpecialIfBound?_slot (name := Str.ofString "__repr__") (typeIs_int s a t) F.slot_int_repr (call_int_reprB hn ha ?_))
  exact wpAny_bind (wpAny_isInstance (T := "str") (b := true) rfl isSubtype_str_str (wpAny_pure h))
theorem repr_of_intB {a : Int} {t : Tok} {Q : Value → Shared → Prop} (hn : s.heap.NoDigits) (ha : a.natAbs.log2 < 12900) (h : Q (.str (toString a) s.toks) { s with toks := s.toks + 1 }) : wpAny (model prog w) A (call (.builtin "repr") [.int a t]) Q E s := by
  refine Calls.call_function_entry F.kind_repr F.plain_repr F.entry_repr (F.args_repr1 _) ?_
  unfold Builtin.«repr»
  have hv : ([.int a t] : List Value).any Value.onHeap = false := rfl
  refine wpAny_bind (m := oneArg "repr" _) (wpAny_pure ?_)
  simp only [cRoomFor, hv, Bool.false_eq_true, if_false, pure_bind]
  refine wpAny_bind (wpAny_specialOf (name := Str.ofString "__repr__") (typeIs_int s a t) F.slot_int_repr.lookup ?_)
  refine wpAny_bind (m := callSpecialIfBound? (.int a t) (Str.ofString "__repr__")) (wpAny_callSpecialIfBound?_slot (name := Str.ofString "__repr__") (typeIs_int s a t) F.slot_int_repr (call_int_reprB hn ha ?_))
  refine wpAny_bind (wpAny_isInstance (T := "str") (b := true) rfl isSubtype_str_str ?_)
  exact wpAny_pure ⟨_, rfl, h⟩
theorem reprK_intB {a : Int} (t : Tok) (hn : h₀.NoDigits) (ha : a.natAbs.log2 < 12900) (as : List Addr) (d : Nat) : ReprK prog w as h₀ d (.int a t) (toString a) := fun n hz A g E s Q _ _ _ hk hQ => by
  have hn' : n ≤ sizeLine := by omega
  rw [pyReprUnder_leaf (v := .int a t) hn' (fun _ e => nomatch e)]
  unfold pyRepr
  exact wpAny_bind (pyReprObj_intB (hn.keeps hk) ha (wpAny_pure (hQ s.heap _ fun _ _ e => e)))
end
mutual
/-- what repr can write here -/
def shB : PyData → Bool
  | .none | .bool _ | .str _ => true
  | .int i => decide (i.natAbs.log2 < 12900)
  | .list xs | .tuple xs => shsB xs
  | .dict _ => false
def shsB : List PyData → Bool
  | [] => true
  | x :: xs => shB x && shsB xs
end
section
variable {prog : Program} {w : World} {h₀ : Heap}
mutual
theorem reprK_of (hn : h₀.NoDigits) : ∀ {v : Value} {d : PyData} {as : List Addr}, Reads h₀ v d as → shB d = true → d.shown.length ≤ sizeLine → ∃ bs, ReadAtMost h₀ d.depth bs ∧ ReprK prog w bs h₀ d.depth v d.shown
  | _, _, _, .none, _, _ => ⟨[], (fun _ h => nomatch h), by simp only [PyData.shown]; exact .of_is ReprIs.none _ _ _⟩
  | _, _, _, .bool b, _, _ => ⟨[], (fun _ h => nomatch h), by simp only [PyData.shown]; exact .of_is (ReprIs.bool b) _ _ _⟩
  | _, _, _, .int i t, hs, _ => ⟨[], (fun _ h => nomatch h), by simp only [PyData.shown]; exact reprK_intB t hn (by simpa [shB] using hs) _ _⟩
  | _, _, _, .str x t, _, hz => ⟨[], (fun _ h => nomatch h), by simp only [PyData.shown]; exact .of_is (ReprIs.str x t (by simpa only [PyData.shown] using hz)) _ _ _⟩
  | _, _, _, .list (a := a) (vs := vs) (xs := xs) h1 h2 h3 h4, hs, hz => by
    have hz' : (listText (PyData.shownAll xs)).length ≤ sizeLine := by simpa only [PyData.shown] using hz
    obtain ⟨bs, hb, hk⟩ := reprsK_of hn h4 (by simpa [shB] using hs) (fun t ht => Nat.le_trans (listText_mem_le ht) hz')
    have r : Reads h₀ (.ref a) (.list xs) _ := .list h1 h2 h3 h4
    have hna : a ∉ bs := not_mem_of_deeper r (by simp only [PyData.depth]; omega) hb
    refine ⟨a :: bs, ReadAtMost.cons r (by simp only [PyData.depth]; omega) hb, ?_⟩
    simp only [PyData.depth, PyData.shown]
    obtain ⟨l⟩ := vs
    cases l with
    | nil =>
      have h4' : ReadsAll h₀ [] xs _ := h4
      cases h4'
      simp only [PyData.shownAll, listText_nil]
      exact ReprK.listEmpty h1 h2 h3
    | cons x l => exact ReprK.list h1 h2 h3 hna (by simpa using hk.length_eq) (fun i y e => hk.item i y (by simpa using e))
  | _, _, _, .tuple (a := a) (xs := xs) h1 h2 h3 h4, hs, hz => by
    have hz' : (tupleText (PyData.shownAll xs)).length ≤ sizeLine := by simpa only [PyData.shown] using hz
    obtain ⟨bs, hb, hk⟩ := reprsK_of hn h4 (by simpa [shB] using hs) (fun t ht => Nat.le_trans (tupleText_mem_le ht) hz')
    have r : Reads h₀ (.ref a) (.tuple xs) _ := .tuple h1 h2 h3 h4
    have hna : a ∉ bs := not_mem_of_deeper r (by simp only [PyData.depth]; omega) hb
    refine ⟨a :: bs, ReadAtMost.cons r (by simp only [PyData.depth]; omega) hb, ?_⟩
    simp only [PyData.depth, PyData.shown]
    exact ReprK.tuple h1 h2 h3 hna hk
  | _, _, _, .dict _ _ _ _ _, hs, _ => by simp [shB] at hs
theorem reprsK_of (hn : h₀.NoDigits) : ∀ {vs : List Value} {ds : List PyData} {as : List Addr}, ReadsAll h₀ vs ds as → shsB ds = true → (∀ t ∈ PyData.shownAll ds, t.length ≤ sizeLine) →
    ∃ bs, ReadAtMost h₀ (PyData.depthAll ds) bs ∧ ReprAllK prog w bs h₀ (PyData.depthAll ds) vs (PyData.shownAll ds)
  | _, _, _, .nil, _, _ => ⟨[], (fun _ h => nomatch h), by simp only [PyData.shownAll]; exact .nil⟩
  | _, _, _, .cons (d := d) (ds := ds) r rs, hs, hz => by
    have hs' : shB d = true ∧ shsB ds = true := by simpa [shsB] using hs
    obtain ⟨b1, hb1, k1⟩ := reprK_of hn r hs'.1 (hz _ (by simp only [PyData.shownAll]; exact List.mem_cons_self ..))
    obtain ⟨b2, hb2, k2⟩ := reprsK_of hn rs hs'.2 (fun t ht => hz t (by simp only [PyData.shownAll]; exact List.mem_cons_of_mem _ ht))
    refine ⟨b1 ++ b2, ?_, ?_⟩
    · intro b hm
      simp only [PyData.depthAll]
      rcases List.mem_append.mp hm with hm | hm
      · obtain ⟨d', as', r', hd'⟩ := hb1 b hm
        exact ⟨d', as', r', Nat.le_trans hd' (Nat.le_max_left _ _)⟩
      · obtain ⟨d', as', r', hd'⟩ := hb2 b hm
        exact ⟨d', as', r', Nat.le_trans hd' (Nat.le_max_right _ _)⟩
    · simp only [PyData.depthAll, PyData.shownAll]
      exact .cons ((k1.more fun b hb => List.mem_append_left _ hb).level_le (Nat.le_max_left _ _)) (k2.more_le (fun b hb => List.mem_append_right _ hb) (Nat.le_max_right _ _))
end
theorem repr_readsB {a : Addr} {d : PyData} {as : List Addr} {A : Around} {E : Value → Shared → Prop} {s : Shared} {Q : Value → Shared → Prop} (hn : h₀.NoDigits) (r : Reads h₀ (.ref a) d as) (hs : shB d = true) (hg : A.guards = some []) (hu : A.units + (d.depth + 1) < cLine) (hk0 : ∀ b o, h₀.get? b = some o → s.heap.get? b = some o)
    (hQ : ∀ h' u tk, (∀ b o, s.heap.get? b = some o → h'.get? b = some o) → Q (.str d.shown u) { s with heap := h', toks := tk }) (hsz : d.shown.length ≤ sizeLine) : wpAny (model prog w) A (call (.builtin "repr") [.ref a]) Q E s := by
  have sh : ∃ T idr, ShowsBy prog w h₀ a d T idr := by
    cases r with
    | list h1 h2 h3 h4 =>
      rename_i o vs n xs bs₀
      have hz' : (listText (PyData.shownAll xs)).length ≤ sizeLine := by simpa only [PyData.shown] using hsz
      obtain ⟨bs, hb, hk⟩ := reprsK_of (prog := prog) (w := w) hn h4 (by simpa [shB] using hs) (fun t ht => Nat.le_trans (listText_mem_le ht) hz')
      have hna : a ∉ bs := not_mem_of_deeper (.list h1 h2 h3 h4) (by simp only [PyData.depth]; omega) hb
      refine ⟨"list", "list.__repr__", F.slot_list_repr.toG, F.slot_list_str, F.slot_list_format, fun s hk0 => ⟨o, hk0 _ _ h1, h2⟩, fun A E s Q hg hu hk0 hQ => ?_⟩
      simp only [PyData.depth] at hu
      simp only [PyData.shown] at hQ
      obtain ⟨l⟩ := vs
      cases l with
      | nil =>
        have h4' : ReadsAll h₀ [] xs _ := h4
        cases h4'
        simp only [PyData.shownAll, listText_nil] at hQ
        exact call_list_repr_empty ⟨o, hk0 _ _ h1, h2⟩ (hk0 _ _ h1) h3 (hQ s.heap _ _ fun _ _ e => e)
      | cons x l =>
        exact call_list_reprK h1 h2 h3 hna (by simpa using hk.length_eq) (fun i y e => hk.item i y (by simpa using e)) hg (fun b _ => Clear.nil b) hu hk0 hQ hz'
    | tuple h1 h2 h3 h4 =>
      rename_i o vs n xs
      have hz' : (tupleText (PyData.shownAll xs)).length ≤ sizeLine := by simpa only [PyData.shown] using hsz
      obtain ⟨bs, hb, hk⟩ := reprsK_of (prog := prog) (w := w) hn h4 (by simpa [shB] using hs) (fun t ht => Nat.le_trans (tupleText_mem_le ht) hz')
      have hna : a ∉ bs := not_mem_of_deeper (.tuple h1 h2 h3 h4) (by simp only [PyData.depth]; omega) hb
      refine ⟨"tuple", "tuple.__repr__", F.slot_tuple_repr, F.slot_tuple_str, F.slot_tuple_format, fun s hk0 => ⟨o, hk0 _ _ h1, h2⟩, fun A E s Q hg hu hk0 hQ => ?_⟩
      simp only [PyData.depth] at hu
      simp only [PyData.shown] at hQ
      exact call_tuple_reprK h1 h2 h3 hna hk hg (fun b _ => Clear.nil b) hu hk0 hQ hz'
    | dict _ _ _ _ _ => simp [shB] at hs
  obtain ⟨T, idr, S⟩ := sh
  exact call_repr_slot (by omega) (S.typeIs s hk0) S.slotRepr (S.call A.in1 E s _ hg (by show A.units + 1 + d.depth < cLine; omega) hk0 fun h' u tk hk => ⟨_, _, rfl, hQ h' u tk hk⟩)
end
section
variable {K : PySem.W.Frag}
mutual
/-- an upper bound of what is written of a value; too much where it can't be written -/
def wt : PyData → Nat
  | .none => 10
  | .bool _ => 10
  | .int i => if i.natAbs < 10 ^ 40 then 50 else if i.natAbs.log2 < 12900 then 13000 else 100000000
  | .str x => if x.cps.toList.all (fun c => decide (c < 16 ^ 8)) = true then 10 * x.length + 2 else 100000000
  | .list xs => wts xs + 3
  | .tuple xs => wts xs + 3
  | .dict _ => 100000000
def wts : List PyData → Nat
  | [] => 0
  | x :: xs => wt x + 2 + wts xs
end
theorem str_len_of (x : String) : (Str.ofString x).length = x.length := PySem.ofString_length x
mutual
theorem wt_ok : ∀ d : PyData, wt d < 100000000 → shB d = true ∧ d.shown.length ≤ wt d
  | .none, _ => ⟨by simp only [shB], by simp only [PyData.shown, wt]; decide +kernel⟩
  | .bool b, _ => ⟨by simp only [shB], by simp only [PyData.shown, wt]; cases b <;> decide +kernel⟩
  | .int i, h => by
    simp only [wt] at h ⊢
    by_cases h1 : i.natAbs < 10 ^ 40
    · have e := int_text_length_le10 (k := 40) (by decide) h1
      refine ⟨?_, ?_⟩
      · simp only [shB, decide_eq_true_eq]
        exact PySem.Flt.log2_lt_of (by decide) (Nat.lt_trans h1 (by decide +kernel))
      · simp only [PyData.shown]
        rw [str_len_of, if_pos h1]
        omega
    · rw [if_neg h1] at h ⊢
      by_cases h2 : i.natAbs.log2 < 12900
      · have e := int_text_length_le (k := 12900) (by decide) h2
        refine ⟨?_, ?_⟩
        · simp only [shB, decide_eq_true_eq]
          exact h2
        · simp only [PyData.shown]
          rw [str_len_of, if_pos h2]
          omega
      · rw [if_neg h2] at h
        exact absurd h (by decide)
  | .str x, h => by
    simp only [wt] at h ⊢
    by_cases h1 : x.cps.toList.all (fun c => decide (c < 16 ^ 8)) = true
    · refine ⟨by simp only [shB], ?_⟩
      simp only [PyData.shown]
      rw [if_pos h1]
      exact StrLaws.reprText_len x fun c hc => by
        have := List.all_eq_true.mp h1 c hc
        exact of_decide_eq_true this
    · rw [if_neg h1] at h
      exact absurd h (by decide)
  | .list xs, h => by
    simp only [wt] at h ⊢
    obtain ⟨h1, h3⟩ := wts_ok xs (by omega)
    refine ⟨by simpa only [shB] using h1, ?_⟩
    simp only [PyData.shown]
    have := listText_len_le (PyData.shownAll xs)
    omega
  | .tuple xs, h => by
    simp only [wt] at h ⊢
    obtain ⟨h1, h3⟩ := wts_ok xs (by omega)
    refine ⟨by simpa only [shB] using h1, ?_⟩
    simp only [PyData.shown]
    have := tupleText_len_le (PyData.shownAll xs)
    omega
  | .dict _, h => by simp only [wt] at h; exact absurd h (by decide)
theorem wts_ok : ∀ xs : List PyData, wts xs < 100000000 → shsB xs = true ∧ ((PyData.shownAll xs).map (·.length)).sum + 2 * (PyData.shownAll xs).length ≤ wts xs
  | [], _ => ⟨by simp only [shsB], by simp only [PyData.shownAll, wts]; decide⟩
  | x :: xs, h => by
    simp only [wts] at h ⊢
    obtain ⟨a1, a3⟩ := wt_ok x (by omega)
    obtain ⟨b1, b3⟩ := wts_ok xs (by omega)
    refine ⟨by simp only [shsB, a1, b1, Bool.and_self], ?_⟩
    simp only [PyData.shownAll, List.map_cons, List.sum_cons, List.length_cons]
    omega
end
/-- what repr takes -/
def OkD (d : PyData) : Prop := d.depth ≤ 50 ∧ wt d ≤ 16000000
instance (d : PyData) : Decidable (OkD d) := inferInstanceAs (Decidable (_ ∧ _))
def rRepr (K : PySem.W.Frag) : List V → Hp → VK → Prop := fun xs H Q => ∃ x d, xs = [x] ∧ Dp K H x d ∧ OkD d ∧ Q (.str d.shown) H
end
section
variable {X : Cx}
theorem call_repr {k : Nat} (hr : Room k X.A) (gd : X.A.guards = some []) (nd : X.base.NoDigits) : CallR X (.builtin "repr") (rRepr X.K) := by
  intro pins s σ H xs us Q I r h
  obtain ⟨x, d, rfl, hd, ok, q⟩ := h
  obtain ⟨u, rfl, ru⟩ := vals1 r
  obtain ⟨as, rd⟩ := Dp.reads I d x u hd ru
  obtain ⟨h1, h3⟩ := wt_ok d (by have := ok.2; omega)
  have hn : s.heap.NoDigits := nd.keeps I.bk
  have hz : d.shown.length ≤ sizeLine := by rw [sizeLine_eq]; have := ok.2; omega
  have hu := hr.units
  have hdp := ok.1
  have fin : ∀ {h' : Heap} {t : Tok} {tk : Nat}, (∀ b o, s.heap.get? b = some o → h'.get? b = some o) → EP X pins σ Q (.str d.shown t) { s with heap := h', toks := tk } :=
    fun {h' t tk} kp => ⟨.str d.shown, H, I.kept kp, ⟨t, rfl⟩, q⟩
  cases hd with
  | non =>
    obtain rfl : u = Value.none := ru
    exact PySem.P.repr_of_none (by have := fin (h' := s.heap) (t := s.toks) (tk := s.toks + 1) (fun _ _ e => e); rwa [PyData.shown_none] at this)
  | bl b =>
    obtain rfl : u = Value.bool b := ru
    refine PySem.P.repr_of_bool ?_
    have := fin (h' := s.heap) (t := s.toks) (tk := s.toks + 1) (fun _ _ e => e)
    rw [PyData.shown_bool] at this
    cases b <;> exact this
  | int i =>
    obtain ⟨t, rfl⟩ := ru
    refine repr_of_intB hn (by simpa [shB] using h1) ?_
    have := fin (h' := s.heap) (t := s.toks) (tk := s.toks + 1) (fun _ _ e => e)
    rwa [PyData.shown_int] at this
  | str z =>
    obtain ⟨t, rfl⟩ := ru
    refine PySem.P.repr_of_str ?_ (by rwa [PyData.shown_str] at hz)
    have := fin (h' := s.heap) (t := s.toks) (tk := s.toks + 1) (fun _ _ e => e)
    rwa [PyData.shown_str] at this
  | lst _ _ =>
    obtain rfl : u = Value.ref _ := ru
    exact repr_readsB hn rd h1 gd (by omega) (fun _ _ e => e) (fun h' t tk kp => fin kp) hz
  | tup _ _ =>
    obtain rfl : u = Value.ref _ := ru
    exact repr_readsB hn rd h1 gd (by omega) (fun _ _ e => e) (fun h' t tk kp => fin kp) hz
end
section
variable {μ : Type → Type} {τ : Type} [Mir μ τ] {α β γ δ ρ : Type} {p : Pt τ} {σ : St} {S H S0 H0 : Hp} {te ta tb : TE} {tt : TT} {K : PySem.W.Frag}
/-- what is written of a value, told by the value -/
def rW : Rp PyData := fun d v _ => v = .str d.shown
instance : Mo rW := ⟨fun _ h => h⟩
theorem c_repr {R : Rp α} {d : α → PyData} {m : (α → μ β) → μ β} (h : Ev p te σ S H m R) (hd : isD K R d) : Ev p (tCB (rRepr K) (tCons te tNil)) σ S H (fun k => m fun a => bnd (d a) fun w => Mir.lft (grd (OkD w)) >>= fun _ => k w) rW := fun S1 H1 s g ps k z hm Q q =>
  h S1 H1 s g ps _ z hm _ fun a v S2 H2 s2 g2 p2 r2 hm2 => by
    obtain ⟨_, e, hm3⟩ := run_of_lft (show Mir.run (Mir.lft (grd (OkD (d a))) >>= fun _ => k (d a)) s2 = some z from hm2)
    exact ⟨v, d a, rfl, hd a v S2 H2 r2 g2.i, grd_of e, q _ _ S2 H2 s2 g2 p2 rfl hm3⟩
open Classical in
/-- a condition that must hold, of any kind -/
noncomputable def grP (c : Prop) : Option Unit := if c then some () else none
theorem grP_of {c : Prop} {u : Unit} (h : grP c = some u) : c := by
  unfold grP at h
  split at h
  · assumption
  · cases h
theorem grP_ok {c : Prop} (h : c) : grP c = some () := by
  unfold grP
  rw [if_pos h]
/-- two writings that must be the same -/
theorem e_neW {mA mB : (PyData → μ β) → μ β} (ha : Ev p ta σ S H mA rW) (hb : Ev p tb σ S H mB rW) : Ev p (tOp rNe ta tb) σ S H (fun k => mA fun a => mB fun b => Mir.lft (grP (a = b)) >>= fun _ => k false) rB := fun S1 H1 s g ps k z hm Q q =>
  ha S1 H1 s g ps _ z hm _ fun a v S2 H2 s2 g2 p2 r2 hm2 => hb S2 H2 s2 (g.tr g2) p2 _ z hm2 _ fun b u S3 H3 s3 g3 p3 r3 hm3 => by
    obtain ⟨_, e, hm4⟩ := run_of_lft hm3
    have e1 := grP_of e
    subst e1
    have e2 : v = .str a.shown := r2
    have e3 : u = .str a.shown := r3
    subst e2
    subst e3
    exact ⟨rfl, q false _ S3 H3 s3 (g2.tr g3) p3 (by show V.bl _ = V.bl _; simp) hm4⟩
theorem e_eqW {mA mB : (PyData → μ β) → μ β} (ha : Ev p ta σ S H mA rW) (hb : Ev p tb σ S H mB rW) : Ev p (tOp rEq ta tb) σ S H (fun k => mA fun a => mB fun b => Mir.lft (grP (a = b)) >>= fun _ => k true) rB := fun S1 H1 s g ps k z hm Q q =>
  ha S1 H1 s g ps _ z hm _ fun a v S2 H2 s2 g2 p2 r2 hm2 => hb S2 H2 s2 (g.tr g2) p2 _ z hm2 _ fun b u S3 H3 s3 g3 p3 r3 hm3 => by
    obtain ⟨_, e, hm4⟩ := run_of_lft hm3
    have e1 := grP_of e
    subst e1
    have e2 : v = .str a.shown := r2
    have e3 : u = .str a.shown := r3
    subst e2
    subst e3
    exact ⟨rfl, q true _ S3 H3 s3 (g2.tr g3) p3 (by show V.bl _ = V.bl _; simp) hm4⟩
end
end Wk
set_option Elab.async false
set_option maxRecDepth 100000
set_option maxHeartbeats 4000000
set_option linter.all false
/-! W5: defs by their names -/
namespace Wk
open PySem L2
open PyProof.Rows hiding St
/-- the def x of the top stands as it was written -/
def DefAt (K : PySem.W.Frag) (mg : Str → Option Value) (x : Str) (st : Stmt) : Prop := ∃ f fd, Fun K x x st f fd ∧ mg x = some (.ref f)
theorem defAt {K : PySem.W.Frag} {h : Heap} {mg : Str → Option Value} {x : Str} {st : Stmt} {f : Addr} {od an : Option Addr} {sl : Array (Option Value)} {oc kV doc pm cd ct : Value} (X : K.In h) (G : h.Ns mainGlobals mg)
    (a : PySem.W.nsIn K mainGlobals x = some (some (.ref f))) (l : K.lookup f = some ⟨oc, od, .func (PySem.W.fnOf x x (defArgs st) (defBody st) (defScope st) .none kV doc pm an cd ct), sl⟩)
    (c : PySem.W.codeIn K cd x = true) (k : PySem.W.keepIn K (.ref f) = true) : DefAt K mg x st := ⟨f, _, fun_mk l c k, PySem.W.mg_of X G a⟩
/-- .. and keeps its promise -/
def Dk (P : Program) (w : World) (K : PySem.W.Frag) (mg : Str → Option Value) (base : Heap) (x gx : Str) (st : Stmt) (k : Nat) (ps : List Str) (sp : Sp) : Prop :=
  ∃ f fd, Fun K x x st f fd ∧ mg gx = some (.ref f) ∧ FnG P w K mg base CX0 k f fd ps sp ∧ Binds K fd ps []
theorem Fun.kb {K : PySem.W.Frag} {x qual : Str} {st : Stmt} {f : Addr} {fd : FuncData} {ps ks : List Str} {n : Nat} {ix : List Nat} (F : Fun K x qual st f fd)
    (h : ∀ (kV doc pm : Value) (an : Option Addr) (cdv ct : Value) (us ws : List Value), us.length = n → ws.length = ks.length → bindArgs (PySem.W.fnOf x qual (defArgs st) (defBody st) (defScope st) .none kV doc pm an cdv ct) ⟨us, ks.zip ws⟩ = pure (ps.zip (pick ix (us ++ ws)))) : KB K fd ps n ks ix := by
  obtain ⟨oc, od, kV, doc, pm, an, cdv, ct, osl, rfl, lk, hcd⟩ := F.ex
  exact fun s us ws _ h1 h2 => .of_eq (h kV doc pm an cdv ct us ws h1 h2)

/-! ### the layer's rules, the written part told -/
section
variable {X : Cx} {tg : Expr}
theorem k_ixL (K : PySem.W.Frag) (h : X.K = K := by rfl) : IxR X (rIxL K) := h ▸ ix_list
theorem k_ixT (K : PySem.W.Frag) (h : X.K = K := by rfl) : IxR X (rIxT K) := h ▸ ix_tup
theorem k_sum (K : PySem.W.Frag) (hc : X.calm = true := by rfl) (h : X.K = K := by rfl) : CallR X (.builtin "sum") (rSum K) := h ▸ cr_sum hc
theorem k_min (K : PySem.W.Frag) (hc : X.calm = true := by rfl) (h : X.K = K := by rfl) : CallR X (.builtin "min") (rMin K) := h ▸ cr_min hc
theorem k_max (K : PySem.W.Frag) (hc : X.calm = true := by rfl) (h : X.K = K := by rfl) : CallR X (.builtin "max") (rMax K) := h ▸ cr_max hc
theorem k_all (K : PySem.W.Frag) (hc : X.calm = true := by rfl) (h : X.K = K := by rfl) : CallR X (.builtin "all") (rAll K) := h ▸ cr_all hc
theorem k_any (K : PySem.W.Frag) (hc : X.calm = true := by rfl) (h : X.K = K := by rfl) : CallR X (.builtin "any") (rAny K) := h ▸ cr_any hc
theorem k_len (K : PySem.W.Frag) (h : X.K = K := by rfl) : CallR X (.builtin "len") (fun xs H Q => ∃ p ys, xs = [.ref p] ∧ (SqL K H p ys ∨ SqT K H p ys) ∧ Q (.int ys.length) H) := h ▸ call_len_seq
theorem k_tupOf (K : PySem.W.Frag) (h : X.K = K := by rfl) : CallR X (.type "tuple") (rTupOf K) := h ▸ call_tuple_of
theorem k_listOf (K : PySem.W.Frag) (h : X.K = K := by rfl) : CallR X (.type "list") (fun xs H Q => ∃ p ys, xs = [.ref p] ∧ (SqL K H p ys ∨ SqT K H p ys) ∧ ∀ l, H l = none → Q (.ref l) (upd H l (.lst ys))) := h ▸ call_list_of
theorem k_repr {k : Nat} (K : PySem.W.Frag) (hr : Room k X.A) (gd : X.A.guards = some []) (nd : X.base.NoDigits) (h : X.K = K := by rfl) : CallR X (.builtin "repr") (rRepr K) := h ▸ call_repr hr gd nd
theorem k_in (K : PySem.W.Frag) (h : X.K = K := by rfl) : OpR X (compareOp .In) (rIn K false) := h ▸ op_in_seq
theorem k_notin (K : PySem.W.Frag) (h : X.K = K := by rfl) : OpR X (compareOp .NotIn) (rIn K true) := h ▸ op_notIn_seq
theorem k_pil (K : PySem.W.Frag) {l : Expr} {tl : TE} (hl : PE X l tl) (h : X.K = K := by rfl) : PI X tg l (iList K tl) := h ▸ pi_list hl
theorem k_pit (K : PySem.W.Frag) {l : Expr} {tl : TE} (hl : PE X l tl) (h : X.K = K := by rfl) : PI X tg l (iTup K tl) := h ▸ pi_tup hl
theorem k_pie (K : PySem.W.Frag) {e : Expr} {ta : TA} {p pos tpos : Pos} {elts : List Expr} {kk : Nat} (hg : Gl X "enumerate") (hm : X.mg "enumerate" = none) (ha : PA X [e] ta) (hs : starEach [e] X.env = [(false, eval e X.env)] := by rfl) (h : X.K = K := by rfl) :
    PI X (.Tuple elts kk tpos) (.Call (.Name "enumerate" p) [e] [] pos) (iEnum K ta) := h ▸ pi_enum hg hm ha hs
theorem k_piz (K : PySem.W.Frag) {e e2 : Expr} {ta : TA} {p pos tpos : Pos} {elts : List Expr} {kk : Nat} (hg : Gl X "zip") (hm : X.mg "zip" = none) (ha : PA X [e, e2] ta)
    (hs : starEach [e, e2] X.env = (false, eval e X.env) :: starEach [e2] X.env := by rfl) (hpl : (backTo pos (starEach [e2] X.env)).any (·.1) = false := by rfl) (h : X.K = K := by rfl) :
    PI X (.Tuple elts kk tpos) (.Call (.Name "zip" p) [e, e2] [] pos) (iZip K ta) := h ▸ pi_zip hg hm ha hs hpl
theorem k_gt (K : PySem.W.Frag) {es : List Expr} {k : Nat} {pos : Pos} {t : TGs} {n : Nat} (h : PGs X es t) (hc : X.calm = true := by rfl)
    (hn : (assignEach es X.env).length = n := by rfl) (hst : (assignEach es X.env).findIdx? (·.1) = none := by rfl) (hK : X.K = K := by rfl) : PG X (.Tuple es k pos) (gTup K n t) := hK ▸ pg_tup hc h hn hst
end

/-! ### ranges with a step, enumerate -/
section
variable {μ : Type → Type} {τ : Type} [Mir μ τ] {α β : Type} {p : Pt τ} {σ : St} {S H : Hp} {te ta tb tc : TE} {K : PySem.W.Frag}
def Rg3 (i j c : Int) : Prop := c ≠ 0 ∧ c.natAbs < 1073741824 ∧ Builtin.Range.small i j c = true ∧ 0 ≤ Builtin.Range.rangeSize i j c
instance (i j c : Int) : Decidable (Rg3 i j c) := inferInstanceAs (Decidable (_ ∧ _))
def rng3 (i j c : Int) : List Int := (List.range (Builtin.Range.rangeSize i j c).toNat).map fun (k : Nat) => i + (k : Int) * c
theorem it_rng3 {lo c : Int} {n : Nat} {O : Own} : ItOk p (Itc lo c n) ((List.range n).map fun (k : Nat) => lo + (k : Int) * c) rI S O := fun S1 H1 _ e2 _ => by
  refine ⟨fun i hi => by show i < n; simpa using hi, by show n ≤ _; simp, fun i x v H2 hx y => ?_⟩
  obtain ⟨e3, y⟩ := y
  subst e3
  subst y
  refine ⟨S1, Gm.rf e2, ?_⟩
  rw [List.getElem?_map] at hx
  have hi : i < n := by
    by_cases h : i < n
    · exact h
    · rw [List.getElem?_eq_none (by simpa using h)] at hx; cases hx
  rw [List.getElem?_eq_getElem (by simpa using hi)] at hx
  simp at hx
  show V.int _ = V.int _
  rw [← hx]
theorem i_R3 {m m' m'' : (Int → μ β) → μ β} (h : Ev p ta σ S H m rI) (h' : Ev p tb σ S H m' rI) (h'' : Ev p tc σ S H m'' rI) : EvI p (iRng3 (tCons ta (tCons tb (tCons tc tNil)))) σ S H (fun k => m fun i => m' fun j => m'' fun c => Mir.lft (grd (Rg3 i j c)) >>= fun _ => k (rng3 i j c)) rI [] := fun S1 H1 s g ps k z hm Q q =>
  h S1 H1 s g ps _ z hm _ fun i v S2 H2 s2 g2 p2 r hm2 => h' S2 H2 s2 (g.tr g2) p2 _ z hm2 _ fun j u S3 H3 s3 g3 p3 r3 hm3 => h'' S3 H3 s3 ((g.tr g2).tr g3) p3 _ z hm3 _ fun c y S4 H4 s4 g4 p4 r4 hm4 => by
    obtain ⟨_, e, hm5⟩ := run_of_lft hm4
    have hb := grd_of e
    cases (show v = .int i from r)
    cases (show u = .int j from r3)
    cases (show y = .int c from r4)
    exact ⟨i, j, c, (Builtin.Range.rangeSize i j c).toNat, rfl, ⟨hb.1, hb.2.1, hb.2.2.1, by have := hb.2.2.2; omega⟩, q _ _ S4 H4 s4 ((g2.tr g3).tr g4) p4 it_rng3 hm5⟩
def enum (xs : List α) : List (Int × α) := xs.zipIdx.map fun y => ((y.2 : Int), y.1)
theorem i_enum {m : (List α → μ β) → μ β} {R : Rp α} [Mo R] (h : Ev p te σ S H m (rL (aAll R))) : EvI p (iEnum K (tCons te tNil)) σ S H (fun k => m fun xs => k (enum xs)) (rT K (aCons rI (aOne R))) [] := fun S1 H1 s g ps k z hm Q q =>
  h S1 H1 s g ps _ z hm _ fun xs v S2 H2 s2 g2 p2 ⟨x, vs, e, h1, h2⟩ hm2 => ⟨x, vs, by rw [e], .of (g2.i _ _ h1), q _ _ S2 H2 s2 g2 p2 (fun S3 H3 e1 e2 _ => by
    have a2 : All R S2 xs vs := h2
    have hq : SqL K H3 x vs := .of (e2 _ _ (e1 _ _ h1))
    have ln : (enum xs).length = vs.length := by unfold enum; rw [List.length_map, List.length_zipIdx, a2.len]
    refine ⟨fun i hi => ⟨vs, vs[i]'(by rw [← ln]; exact hi), hq, List.getElem?_eq_getElem _⟩, ⟨vs, hq, by rw [ln]; exact Nat.le_refl _⟩, fun i y v H4 hx yl => ?_⟩
    obtain ⟨tp, u, e3, n, e4, yl⟩ := yl
    subst e3
    subst e4
    have hu := yl vs hq
    have hx' : xs.zipIdx[i]? = some (y.2, i) ∧ y.1 = (i : Int) := by
      unfold enum at hx
      rw [List.getElem?_map] at hx
      cases q2 : xs.zipIdx[i]? with
      | none => rw [q2] at hx; cases hx
      | some c =>
        rw [q2] at hx
        have e5 := Option.some.inj hx
        rw [List.getElem?_zipIdx] at q2
        cases q3 : xs[i]? with
        | none => rw [q3] at q2; cases q2
        | some d =>
          rw [q3] at q2
          have e6 := Option.some.inj q2
          rw [← e5, ← e6]
          simp
    rw [List.getElem?_zipIdx] at hx'
    obtain ⟨hx1, hx2⟩ := hx'
    have hx3 : xs[i]? = some y.2 := by
      cases q3 : xs[i]? with
      | none => rw [q3] at hx1; cases hx1
      | some d => rw [q3] at hx1; have := Option.some.inj hx1; simp at this; rw [this]
    obtain ⟨u', hu', ru⟩ := a2.get hx3
    rw [hu] at hu'
    cases hu'
    refine ⟨upd S3 tp (.tup [.int (i : Nat), u]), Gm.new e2 n, tp, _, rfl, .of upd_same, _, _, rfl, ?_, _, rfl, Mo.mo (e1.tr (Gm.new (M := []) e2 n).s) ru⟩
    show V.int _ = V.int _
    rw [hx2]) hm2⟩
end
end Wk
set_option Elab.async false
set_option maxRecDepth 100000
set_option maxHeartbeats 4000000
set_option linter.all false
/-! W6: == and != of data, the pot -/
namespace Wk
open PySem L2
open PyProof.Rows hiding St
section
variable {μ : Type → Type} {τ : Type} [Mir μ τ] {α β γ : Type} {p : Pt τ} {σ : St} {S H : Hp} {te ta tb : TE} {K : PySem.W.Frag}
/-- data that can be read for a while -/
def EvD (K : PySem.W.Frag) (p : Pt τ) (te : TE) (σ : St) (S H : Hp) (m : (PyData → μ β) → μ β) : Prop :=
  ∀ S1 H1 s, Gm p.M S H S1 H1 → PotAt p s S1 H1 → ∀ (k : PyData → μ β) z, Mir.run (m k) s = some z → ∀ Q : VK,
    (∀ d v S2 H2 s2, Gm p.M S1 H1 S2 H2 → PotAt p s2 S2 H2 → (∀ S3 H3, Gm p.M S2 H2 S3 H3 → Dp K H3 v d) → Mir.run (k d) s2 = some z → Q v H2) → te σ H1 Q
theorem Ev.D {R : Rp α} [Mo R] {d : α → PyData} {m : (α → μ β) → μ β} (h : Ev p te σ S H m R) (hd : isD K R d) : EvD K p te σ S H (fun k => m fun a => k (d a)) := fun S1 H1 s g ps k z hm Q q =>
  h S1 H1 s g ps _ z hm _ fun a v S2 H2 s2 g2 p2 r hm2 => q (d a) v S2 H2 s2 g2 p2 (fun S3 H3 g3 => hd a v S3 H3 (Mo.mo g3.s r) g3.i) hm2
theorem EvR.D {A : Rq α} [Mo A] {d : α → List PyData} {m : (α → μ β) → μ β} (h : EvR p te σ S H m A) (hd : isDs K A d) : EvD K p te σ S H (fun k => m fun a => k (.list (d a))) := fun S1 H1 s g ps k z hm Q q =>
  h S1 H1 s g ps _ z hm _ fun a x vs S2 H2 s2 g2 p2 e m2 r hm2 => q (.list (d a)) (.ref x) S2 H2 s2 g2 p2 (fun S3 H3 g3 => .lst (.of (g3.h _ _ m2 e)) (hd a vs S3 H3 (Mo.mo g3.s r) g3.i)) hm2
def ShD (d : PyData) : Prop := SeqAt.shaped d = true
instance (d : PyData) : Decidable (ShD d) := inferInstanceAs (Decidable (_ = true))
theorem e_eqD {m m' : (PyData → μ β) → μ β} (h : EvD K p ta σ S H m) (h' : EvD K p tb σ S H m') : Ev p (tOp (rEqD K) ta tb) σ S H (fun k => m fun d => m' fun e => Mir.lft (grd (ShD d ∧ ShD e)) >>= fun _ => k (PyData.eqv d e)) rB := fun S1 H1 s g ps k z hm Q q =>
  h S1 H1 s g ps _ z hm _ fun d v S2 H2 s2 g2 p2 r hm2 => h' S2 H2 s2 (g.tr g2) p2 _ z hm2 _ fun e u S3 H3 s3 g3 p3 r3 hm3 => by
    obtain ⟨_, e1, hm4⟩ := run_of_lft hm3
    have hc := grd_of e1
    exact ⟨d, e, r _ _ g3, r3 _ _ (Gm.rf g3.i), hc.1, hc.2, q _ _ S3 H3 s3 (g2.tr g3) p3 rfl hm4⟩
theorem e_neD {m m' : (PyData → μ β) → μ β} (h : EvD K p ta σ S H m) (h' : EvD K p tb σ S H m') : Ev p (tOp (rNeD K) ta tb) σ S H (fun k => m fun d => m' fun e => Mir.lft (grd (ShD d ∧ ShD e)) >>= fun _ => k (!PyData.eqv d e)) rB := fun S1 H1 s g ps k z hm Q q =>
  h S1 H1 s g ps _ z hm _ fun d v S2 H2 s2 g2 p2 r hm2 => h' S2 H2 s2 (g.tr g2) p2 _ z hm2 _ fun e u S3 H3 s3 g3 p3 r3 hm3 => by
    obtain ⟨_, e1, hm4⟩ := run_of_lft hm3
    have hc := grd_of e1
    exact ⟨d, e, r _ _ g3, r3 _ _ (Gm.rf g3.i), hc.1, hc.2, q _ _ S3 H3 s3 (g2.tr g3) p3 rfl hm4⟩
end
section
variable {X : Cx}
theorem k_eqD {k : Nat} (K : PySem.W.Frag) (hr : Room k X.A) (h : X.K = K := by rfl) : OpR X (compareOp .Eq) (rEqD K) := h ▸ op_eqD hr.units
theorem k_neD {k : Nat} (K : PySem.W.Frag) (hr : Room k X.A) (h : X.K = K := by rfl) : OpR X (compareOp .NotEq) (rNeD K) := h ▸ op_neD hr.units
end

/-! ### the pot -/
structure PotT where
  great : List Int
  mix : Int
  turn : Int
structure PotI where
  a : Addr
  g : Addr
  ne : a ≠ g
def potOf (hd : Addr → Int → Int → HO) (i : PotI) : Pt PotT := ⟨[i.a, i.g], fun s => [(i.a, hd i.g s.mix s.turn), (i.g, .lst (s.great.map V.int))], fun _ => rfl, by simp [i.ne]⟩
/-- a dict, a list -/
def hdD (k1 : Str) (g : Addr) (x y : Int) : HO := .dK [(.inr "great", .ref g), (.inr k1, .int x), (.inr "turn", .int y)]
def hdL (g : Addr) (x y : Int) : HO := .lst [.ref g, .int x, .int y]
def rP (i : PotI) : Rp Unit := fun _ v _ => v = .ref i.a
instance (i : PotI) : Mo (rP i) := ⟨fun _ h => h⟩
def rG (i : PotI) : Rp Unit := fun _ v _ => v = .ref i.g
instance (i : PotI) : Mo (rG i) := ⟨fun _ h => h⟩
def potS : PM PotT PotT := fun s => some (s, s)
def potW (f : PotT → PotT) : PM PotT Unit := fun s => some ((), f s)
section
variable {hd : Addr → Int → Int → HO} {i : PotI} {s : PotT} {S H : Hp}
theorem pot_hd (ps : PotAt (potOf hd i) s S H) : H i.a = some (hd i.g s.mix s.turn) ∧ S i.a = none := ps (i.a, _) (List.mem_cons_self ..)
theorem pot_gr (ps : PotAt (potOf hd i) s S H) : H i.g = some (.lst (s.great.map V.int)) ∧ S i.g = none := ps (i.g, _) (List.mem_cons_of_mem _ (List.mem_cons_self ..))
theorem pot_mk (h1 : H i.a = some (hd i.g s.mix s.turn)) (h2 : S i.a = none) (h3 : H i.g = some (.lst (s.great.map V.int))) (h4 : S i.g = none) : PotAt (potOf hd i) s S H := fun c hc => by
  rcases List.mem_cons.mp hc with e | hc
  · subst e; exact ⟨h1, h2⟩
  · rcases List.mem_cons.mp hc with e | hc
    · subst e; exact ⟨h3, h4⟩
    · exact nomatch hc
theorem Gm.inM {M : List Addr} {q : Addr} {u o : HO} (e : Ex S H) (hq : H q = some u) (hs : S q = none) (hM : q ∈ M) : Gm M S H S (upd H q o) := by
  refine ⟨Ex.rf, fun a x h => ?_, fun a x m h => ?_, fun a x h n => n, fun a x h => ?_⟩
  · rw [upd_ne (by rintro rfl; rw [hs] at h; cases h)]; exact e a x h
  · rw [upd_ne (by rintro rfl; exact m hM)]; exact h
  · by_cases z : a = q
    · subst z; exact ⟨o, upd_same⟩
    · exact ⟨x, by rw [upd_ne z]; exact h⟩
theorem pot_pg (e : Ex S H) (ps : PotAt (potOf hd i) s S H) (l : List Int) : PotAt (potOf hd i) { s with great := l } S (upd H i.g (.lst (l.map V.int))) ∧ Gm (potOf hd i).M S H S (upd H i.g (.lst (l.map V.int))) := by
  obtain ⟨h1, h2⟩ := pot_hd ps
  obtain ⟨h3, h4⟩ := pot_gr ps
  exact ⟨pot_mk (by rw [upd_ne i.ne]; exact h1) h2 upd_same h4, Gm.inM e h3 h4 (by simp [potOf])⟩
theorem pot_ph (e : Ex S H) (ps : PotAt (potOf hd i) s S H) (x y : Int) : PotAt (potOf hd i) { s with mix := x, turn := y } S (upd H i.a (hd i.g x y)) ∧ Gm (potOf hd i).M S H S (upd H i.a (hd i.g x y)) := by
  obtain ⟨h1, h2⟩ := pot_hd ps
  obtain ⟨h3, h4⟩ := pot_gr ps
  exact ⟨pot_mk upd_same h2 (by rw [upd_ne (Ne.symm i.ne)]; exact h3) h4, Gm.inM e h1 h2 (by simp [potOf])⟩
end
section
variable {β : Type} {hd : Addr → Int → Int → HO} {i : PotI} {σ : St} {S H : Hp} {te ta tb : TE} {K : PySem.W.Frag} {k1 : Str} {z : β × PotT} {L : List (Addr × HO)} {S0 H0 : Hp} {s : PotT} {tz : TS} {D : Ends}
/-- what is asked of the state -/
theorem e_pot {R : Rp α} (f : PotT → α) (rd : ∀ s S1 H1, Ex S1 H1 → PotAt (potOf hd i) s S1 H1 → ∀ Q : VK, (∀ v, R (f s) v S1 → Q v H1) → te σ H1 Q) : Ev (μ := PM PotT) (β := β) (potOf hd i) te σ S H (fun k => potS >>= fun s => k (f s)) R := fun S1 H1 s g ps k z hm Q q =>
  rd s S1 H1 g.i ps Q fun v r => q (f s) v S1 H1 s (Gm.rf g.i) ps r hm
/-! as a dict -/
theorem gt_ne : ("great" : Str) ≠ "turn" := by decide
theorem dD_G {j : Nat} (e : σ[j]? = some (some (.ref i.a))) : Ev (μ := PM PotT) (β := β) (potOf (hdD k1) i) (tDGet (tVar j) (tC (.str "great"))) σ S H (fun k => k ()) (rG i) := fun S1 H1 s g ps k z hm Q q =>
  ⟨.ref i.a, e, i.a, _, rfl, by have q1 := DGet.k (k := Sum.inr "great") (pot_hd ps).1; rw [valV_pos rfl] at q1; exact q1, q () _ S1 H1 s (Gm.rf g.i) ps rfl hm⟩
theorem dD_S {j : Nat} (e : σ[j]? = some (some (.ref i.a))) (hk : k1 ≠ "great" := by decide) : Ev (μ := PM PotT) (β := β) (potOf (hdD k1) i) (tDGet (tVar j) (tC (.str k1))) σ S H (fun k => potS >>= fun s => k s.mix) rI :=
  e_pot (α := Int) (fun s => s.mix) fun s S1 H1 ex ps Q q => ⟨.ref i.a, e, i.a, .int s.mix, rfl, by have q1 := DGet.k (k := Sum.inr k1) (pot_hd ps).1; rw [valV_neg (fun h => hk (Sum.inr.inj h).symm), valV_pos rfl] at q1; exact q1, q _ rfl⟩
theorem dD_T {j : Nat} (e : σ[j]? = some (some (.ref i.a))) (hk : k1 ≠ "turn" := by decide) : Ev (μ := PM PotT) (β := β) (potOf (hdD k1) i) (tDGet (tVar j) (tC (.str "turn"))) σ S H (fun k => potS >>= fun s => k s.turn) rI :=
  e_pot (α := Int) (fun s => s.turn) fun s S1 H1 ex ps Q q => ⟨.ref i.a, e, i.a, .int s.turn, rfl, by have q1 := DGet.k (k := Sum.inr "turn") (pot_hd ps).1; rw [valV_neg (fun h => absurd (Sum.inr.inj h) gt_ne), valV_neg (fun h => hk (Sum.inr.inj h)), valV_pos rfl] at q1; exact q1, q _ rfl⟩
theorem qD_S {j : Nat} {m : (Int → PM PotT β) → PM PotT β} {k : PM PotT β} (w : Wd (potOf (hdD k1) i) S0 H0 S H L) (ps : PotAt (potOf (hdD k1) i) s S H) (e : σ[j]? = some (some (.ref i.a))) (h : Ev (potOf (hdD k1) i) te σ S H m rI)
    (hm : Mir.run (m fun a => potW (fun s => { s with mix := a }) >>= fun _ => k) s = some z) (hk : k1 ≠ "great") (hk2 : k1 ≠ "turn")
    (nx : ∀ S1 H1 s1, Wd (potOf (hdD k1) i) S0 H0 S1 H1 L → PotAt (potOf (hdD k1) i) s1 S1 H1 → Gm (potOf (hdD k1) i).M S H S1 H1 → Mir.run k s1 = some z → tz D σ H1) : tSeq (sDPut (tVar j) (tC (.str k1)) te) tz D σ H :=
  h S H s (Gm.rf w.i) ps _ z hm _ fun a v S1 H1 s1 g p1 r hm1 => by
    cases (show v = .int a from r)
    obtain ⟨u, s2, e1, hm2⟩ := run_of_bind hm1
    cases e1
    obtain ⟨p2, g2⟩ := pot_ph g.i p1 a s1.turn
    refine ⟨.ref i.a, e, i.a, _, rfl, DPut.k (k := Sum.inr k1) (pot_hd p1).1 (by rw [sizeLine_eq]; simp), ?_⟩
    have e2 : putK [(Sum.inr (α := Int) ("great" : Str), V.ref i.g), (.inr k1, .int s1.mix), (.inr "turn", .int s1.turn)] (.inr k1) (.int a) = [(.inr "great", .ref i.g), (.inr k1, .int a), (.inr "turn", .int s1.turn)] := by
      simp [putK, Ne.symm hk, Ne.symm hk2]
    rw [e2]
    exact nx S1 _ _ ((w.go g).go g2) p2 (g.tr g2) hm2
theorem qD_T {j : Nat} {m : (Int → PM PotT β) → PM PotT β} {k : PM PotT β} (w : Wd (potOf (hdD k1) i) S0 H0 S H L) (ps : PotAt (potOf (hdD k1) i) s S H) (e : σ[j]? = some (some (.ref i.a))) (h : Ev (potOf (hdD k1) i) te σ S H m rI)
    (hm : Mir.run (m fun a => potW (fun s => { s with turn := a }) >>= fun _ => k) s = some z) (hk2 : k1 ≠ "turn")
    (nx : ∀ S1 H1 s1, Wd (potOf (hdD k1) i) S0 H0 S1 H1 L → PotAt (potOf (hdD k1) i) s1 S1 H1 → Gm (potOf (hdD k1) i).M S H S1 H1 → Mir.run k s1 = some z → tz D σ H1) : tSeq (sDPut (tVar j) (tC (.str "turn")) te) tz D σ H :=
  h S H s (Gm.rf w.i) ps _ z hm _ fun a v S1 H1 s1 g p1 r hm1 => by
    cases (show v = .int a from r)
    obtain ⟨u, s2, e1, hm2⟩ := run_of_bind hm1
    cases e1
    obtain ⟨p2, g2⟩ := pot_ph g.i p1 s1.mix a
    refine ⟨.ref i.a, e, i.a, _, rfl, DPut.k (k := Sum.inr "turn") (pot_hd p1).1 (by rw [sizeLine_eq]; simp), ?_⟩
    have e2 : putK [(Sum.inr (α := Int) ("great" : Str), V.ref i.g), (.inr k1, .int s1.mix), (.inr "turn", .int s1.turn)] (.inr "turn") (.int a) = [(.inr "great", .ref i.g), (.inr k1, .int s1.mix), (.inr "turn", .int a)] := by
      simp [putK, hk2, gt_ne]
    rw [e2]
    exact nx S1 _ _ ((w.go g).go g2) p2 (g.tr g2) hm2
/-! the great ones -/
theorem ints_data {l : List Int} : ∀ {H : Hp}, DpAll K H (l.map V.int) (l.map PyData.int) := by
  intro H
  induction l with
  | nil => exact .nil
  | cons a l ih => exact .cons (.int a) ih
def neG (s : PotT) : Bool := !s.great.isEmpty
theorem shaped_ints (l : List Int) : SeqAt.shaped (.list (l.map PyData.int)) = true := by
  have h1 : ∀ l : List Int, PyData.canLayAll0 (l.map PyData.int) = true := by
    intro l
    induction l with
    | nil => rfl
    | cons a l ih => rw [List.map_cons]; unfold PyData.canLayAll0; rw [ih]; rfl
  have h2 : ∀ l : List Int, PyData.depthAll (l.map PyData.int) ≤ 1 := by
    intro l
    induction l with
    | nil => decide
    | cons a l ih => rw [List.map_cons]; unfold PyData.depthAll; simp [PyData.depth]; omega
  unfold SeqAt.shaped
  have h3 : (PyData.list (l.map PyData.int)).canLay0 = true := by unfold PyData.canLay0; exact h1 l
  have h4 : (PyData.list (l.map PyData.int)).depth ≤ 64 := by unfold PyData.depth; have := h2 l; omega
  rw [h3]; simpa using h4
/-- great != [] -/
theorem e_neG {m : (Unit → PM PotT β) → PM PotT β} (h : Ev (potOf hd i) te σ S H m (rG i)) : Ev (potOf hd i) (tOp (rNeD K) te (tLst tNil)) σ S H (fun k => m fun _ => potS >>= fun s => k (neG s)) rB := fun S1 H1 s g ps k z hm Q q =>
  h S1 H1 s g ps _ z hm _ fun _ v S2 H2 s2 g2 p2 r hm2 => ⟨by rw [sizeLine_eq]; decide, fun x hx => by
    cases (show v = .ref i.g from r)
    have g3 : Gm (potOf hd i).M S2 H2 S2 (upd H2 x (.lst [])) := Gm.own g2.i hx
    have p3 := p2.go (Gm.own (M := []) (o := .lst []) g2.i hx)
    refine ⟨.list (s2.great.map PyData.int), .list [], .lst (.of (pot_gr p3).1) ints_data, .lst (.of upd_same) .nil, shaped_ints _, by decide, ?_⟩
    refine q _ _ S2 _ s2 (g2.tr g3) p3 ?_ hm2
    show V.bl _ = V.bl _
    congr 1
    unfold neG
    cases s2.great with
    | nil => rfl
    | cons a l => rfl⟩
theorem ty_G {s : PotT} (ps : PotAt (potOf hd i) s S H) : tyV K "list" (.ref i.g) H := .inl ⟨rfl, _, .of (pot_gr ps).1⟩
/-- great.pop(0) -/
def popG : PM PotT Int := fun s => match s.great with | [] => none | c :: r => some (c, { s with great := r })
theorem e_pop0 {m : (Unit → PM PotT β) → PM PotT β} (h : Ev (potOf hd i) te σ S H m (rG i)) : Ev (potOf hd i) (tBM K "list" rPopAt te (tCons (tC (.int 0)) tNil)) σ S H (fun k => m fun _ => popG >>= k) rI := fun S1 H1 s g ps k z hm Q q =>
  h S1 H1 s g ps _ z hm _ fun _ v S2 H2 s2 g2 p2 r hm2 => by
    cases (show v = .ref i.g from r)
    refine ⟨ty_G p2, ?_⟩
    obtain ⟨c, s3, e1, hm3⟩ := run_of_bind hm2
    have e1 : popG s2 = some (c, s3) := e1
    unfold popG at e1
    cases e : s2.great with
    | nil => rw [e] at e1; cases e1
    | cons b l =>
      rw [e] at e1
      obtain ⟨rfl, rfl⟩ := Prod.mk.inj (Option.some.inj e1)
      obtain ⟨p3, g3⟩ := pot_pg g2.i p2 l
      refine ⟨i.g, s2.great.map V.int, 0, 0, .int b, rfl, rfl, (pot_gr p2).1, by decide, by decide, ?_, by rw [e]; rfl, ?_⟩
      · rw [e]; simp [seqIndex?]
      rw [show (s2.great.map V.int).eraseIdx 0 = l.map V.int by rw [e]; rfl]
      exact q b _ S2 _ _ (g2.tr g3) p3 rfl hm3
/-- great.insert(0, e) -/
theorem e_ins0 {m : (Unit → PM PotT β) → PM PotT β} {m' : (Int → PM PotT β) → PM PotT β} (h : Ev (potOf hd i) te σ S H m (rG i)) (h' : Ev (potOf hd i) ta σ S H m' rI) :
    Ev (potOf hd i) (tBM K "list" (fun x vs H Q => ∃ (l : Addr) (xs : List V) (i : Int) (y : V), x = .ref l ∧ vs = [.int i, y] ∧ H l = some (.lst xs) ∧ xs.length < sizeLine ∧ 0 ≤ i ∧ i < 2 ^ 63 ∧ Q .non (upd H l (.lst (xs.take i.toNat ++ [y] ++ xs.drop i.toNat)))) te (tCons (tC (.int 0)) (tCons ta tNil))) σ S H
      (fun k => m fun _ => m' fun a => potS >>= fun s => Mir.lft (grd (s.great.length < 16000000)) >>= fun _ => potW (fun s => { s with great := a :: s.great }) >>= k) rN := fun S1 H1 s g ps k z hm Q q =>
  h S1 H1 s g ps _ z hm _ fun _ v S2 H2 s2 g2 p2 r hm2 => by
    cases (show v = .ref i.g from r)
    refine ⟨ty_G p2, h' S2 H2 s2 (g.tr g2) p2 _ z hm2 _ fun a u S3 H3 s3 g3 p3 r3 hm3 => ?_⟩
    cases (show u = .int a from r3)
    obtain ⟨s4, s5, e1, hm4⟩ := run_of_bind hm3
    cases e1
    obtain ⟨_, e2, hm5⟩ := run_of_lft hm4
    have hl := grd_of e2
    obtain ⟨_, s6, e3, hm6⟩ := run_of_bind hm5
    cases e3
    obtain ⟨p4, g4⟩ := pot_pg g3.i p3 (a :: s3.great)
    refine ⟨i.g, s3.great.map V.int, 0, .int a, rfl, rfl, (pot_gr p3).1, by rw [List.length_map, sizeLine_eq]; omega, by decide, by decide, ?_⟩
    rw [show ((s3.great.map V.int).take (0 : Int).toNat ++ [V.int a] ++ (s3.great.map V.int).drop (0 : Int).toNat) = (a :: s3.great).map V.int by simp]
    exact q () _ S3 _ _ ((g2.tr g3).tr g4) p4 rfl hm6
/-- an expression for what it does -/
theorem q_dropE {α : Type} {m : (α → PM PotT β) → PM PotT β} {R : Rp α} {p : Pt PotT} {k : α → PM PotT β} (w : Wd p S0 H0 S H L) (ps : PotAt p s S H) (h : Ev p te σ S H m R) (hm : Mir.run (m k) s = some z)
    (nx : ∀ a S1 H1 s1, Wd p S0 H0 S1 H1 L → PotAt p s1 S1 H1 → Gm p.M S H S1 H1 → Mir.run (k a) s1 = some z → tz D σ H1) : tSeq (tDrop te) tz D σ H :=
  h S H s (Gm.rf w.i) ps _ z hm _ fun a v S1 H1 s1 g p1 r hm1 => nx a S1 H1 s1 (w.go g) p1 g hm1
end
end Wk
set_option Elab.async false
set_option maxRecDepth 100000
set_option maxHeartbeats 4000000
set_option linter.all false
/-! W7: slices, the script, the pot's making -/
namespace Wk
open PySem L2
open PyProof.Rows hiding St
section
variable {μ : Type → Type} {τ : Type} [Mir μ τ] {α β γ : Type} {p : Pt τ} {σ : St} {S H : Hp} {te ta tb : TE} {K : PySem.W.Frag}
/-- a part of a slice -/
def EvO (p : Pt τ) (to : TO) (σ : St) (S H : Hp) (m : (Option Int → μ β) → μ β) : Prop :=
  ∀ S1 H1 s, Gm p.M S H S1 H1 → PotAt p s S1 H1 → ∀ (k : Option Int → μ β) z, Mir.run (m k) s = some z → ∀ Q : Option Int → Hp → Prop,
    (∀ a S2 H2 s2, Gm p.M S1 H1 S2 H2 → PotAt p s2 S2 H2 → Mir.run (k a) s2 = some z → Q a H2) → to σ H1 Q
theorem o_no : EvO (μ := μ) (β := β) p tNoPart σ S H (fun k => k none) := fun _ _ _ g ps _ _ hm _ q => q _ _ _ _ (Gm.rf g.i) ps hm
theorem o_some {m : (Int → μ β) → μ β} (h : Ev p te σ S H m rI) : EvO p (tPart te) σ S H (fun k => m fun a => k (some a)) := fun S1 H1 s g ps k z hm Q q =>
  h S1 H1 s g ps _ z hm _ fun a v S2 H2 s2 g2 p2 r hm2 => ⟨a, r, q _ S2 H2 s2 g2 p2 hm2⟩
def cut (xs : List α) (lo hi : Option Int) : List α := (xs.drop (HT.sIx xs.length 0 lo)).take (HT.sIx xs.length xs.length hi - HT.sIx xs.length 0 lo)
theorem All.cut {R : Rp α} {xs : List α} {vs : List V} (h : All R S xs vs) (lo hi : Option Int) : All R S (cut xs lo hi) (cutV vs lo hi) := by
  unfold Wk.cut cutV
  rw [← h.len]
  exact (h.drop _).take _
theorem l_cut {R : Rp α} {m : (List α → μ β) → μ β} {ml mh : (Option Int → μ β) → μ β} {tl th : TO} [Mo R] (h : EvR p te σ S H m (aAll R)) (hl : EvO p tl σ S H ml) (hh : EvO p th σ S H mh) :
    EvL p (tSl (rSlL K) te tl th) σ S H (fun k => m fun xs => ml fun lo => mh fun hi => k (cut xs lo hi)) (aAll R) := fun S1 H1 s g ps k z hm Q q =>
  h S1 H1 s g ps _ z hm _ fun xs x vs S2 H2 s2 g2 p2 e2 m2 r2 hm2 => hl S2 H2 s2 (g.tr g2) p2 _ z hm2 _ fun lo S3 H3 s3 g3 p3 hm3 => hh S3 H3 s3 ((g.tr g2).tr g3) p3 _ z hm3 _ fun hi S4 H4 s4 g4 p4 hm4 =>
    ⟨x, vs, rfl, .of (g4.h _ _ m2 (g3.h _ _ m2 e2)), fun y hy => by
      have g5 := (g2.tr g3).tr g4
      have n1 : H1 y = none := by
        cases e : H1 y with
        | none => rfl
        | some u => obtain ⟨u', e'⟩ := g5.t y u e; rw [hy] at e'; cases e'
      have a2 : All R S2 xs vs := r2
      exact q (cut xs lo hi) y (cutV vs lo hi) S4 _ s4 (g5.tr (Gm.own g4.i hy)) (p4.go (Gm.own g4.i hy)) n1 upd_same (g4.i.no hy) (new_nM p4 hy) ((a2.mo (g3.s.tr g4.s)).cut lo hi) hm4⟩
/-- the script -/
def rX (K : PySem.W.Frag) : Rp (List Int) := fun xs v S => ∃ a, v = .ref a ∧ SqL K S a (xs.map V.int)
instance (K : PySem.W.Frag) : Mo (rX K) := ⟨fun e ⟨a, h1, h2⟩ => ⟨a, h1, sqL_ex e h2⟩⟩
theorem c_lenX {m : (List Int → μ β) → μ β} (h : Ev p te σ S H m (rX K)) : Ev p (tCB (fun xs H Q => ∃ p ys, xs = [.ref p] ∧ (SqL K H p ys ∨ SqT K H p ys) ∧ Q (.int ys.length) H) (tCons te tNil)) σ S H (fun k => m fun xs => k (xs.length : Int)) rI := fun S1 H1 s g ps k z hm Q q =>
  h S1 H1 s g ps _ z hm _ fun xs v S2 H2 s2 g2 p2 ⟨x, e2, r2⟩ hm2 => by
    subst e2
    exact ⟨x, _, rfl, .inl (sqL_ex g2.i r2), q _ _ S2 H2 s2 g2 p2 (by show V.int _ = V.int _; rw [List.length_map]) hm2⟩
theorem l_cutX {m : (List Int → μ β) → μ β} {ml mh : (Option Int → μ β) → μ β} {tl th : TO} (h : Ev p te σ S H m (rX K)) (hl : EvO p tl σ S H ml) (hh : EvO p th σ S H mh) :
    EvL p (tSl (rSlL K) te tl th) σ S H (fun k => m fun xs => ml fun lo => mh fun hi => k (cut xs lo hi)) (aAll rI) := fun S1 H1 s g ps k z hm Q q =>
  h S1 H1 s g ps _ z hm _ fun xs v S2 H2 s2 g2 p2 ⟨x, e2, r2⟩ hm2 => hl S2 H2 s2 (g.tr g2) p2 _ z hm2 _ fun lo S3 H3 s3 g3 p3 hm3 => hh S3 H3 s3 ((g.tr g2).tr g3) p3 _ z hm3 _ fun hi S4 H4 s4 g4 p4 hm4 =>
    ⟨x, _, e2, sqL_ex ((g3.s.tr g4.s).tr g4.i) r2, fun y hy => by
      have g5 := (g2.tr g3).tr g4
      have n1 : H1 y = none := by
        cases e : H1 y with
        | none => rfl
        | some u => obtain ⟨u', e'⟩ := g5.t y u e; rw [hy] at e'; cases e'
      exact q (cut xs lo hi) y (cutV (xs.map V.int) lo hi) S4 _ s4 (g5.tr (Gm.own g4.i hy)) (p4.go (Gm.own g4.i hy)) n1 upd_same (g4.i.no hy) (new_nM p4 hy) ((All.ofInts xs).cut lo hi) hm4⟩
end
section
variable {X : Cx}
theorem k_sll (K : PySem.W.Frag) (h : X.K = K := by rfl) : SlR X (rSlL K) := h ▸ sl_list
end
section
variable {β : Type} {σ : St} {S H S0 H0 : Hp} {te t1 t2 : TE} {K : PySem.W.Frag} {k1 : Str} {z : β × Unit} {hd : Addr → Int → Int → HO} {tz : TS} {D : Ends} {L : List (Addr × HO)} {s : Unit}
/-- a new pot -/
def EvP (hd : Addr → Int → Int → HO) (te : TE) (σ : St) (S H : Hp) (m : (PotT → Option β) → Option β) : Prop := ∀ S1 H1, Gm [] S H S1 H1 → ∀ (k : PotT → Option β) z, Mir.run (m k) () = some z → ∀ Q : VK,
  (∀ s i S2 H2, Gm [] S1 H1 S2 H2 → PotAt (potOf hd i) s S2 H2 → H1 i.a = none → H1 i.g = none → Mir.run (k s) () = some z → Q (.ref i.a) H2) → te σ H1 Q
theorem back_none {S H S' H' : Hp} {M : List Addr} (g : Gm M S H S' H') {x : Addr} (hx : H' x = none) : H x = none := by
  cases e : H x with
  | none => rfl
  | some u => obtain ⟨u', e'⟩ := g.t x u e; rw [hx] at e'; cases e'
theorem pot_disp {m1 : (List Int → Option β) → Option β} {m2 : (Int → Option β) → Option β} (h1 : EvL pt0 t1 σ S H m1 (aAll rI)) (h2 : Ev pt0 t2 σ S H m2 rI) (hk : k1 ≠ "great") (hk2 : k1 ≠ "turn") :
    EvP (hdD k1) (tDisp [(tC (.str "great"), t1), (tC (.str k1), t2), (tC (.str "turn"), tC (.int 0))]) σ S H (fun k => m1 fun l => m2 fun x => k ⟨l, x, 0⟩) := fun S1 H1 g k z hm Q q p hp => by
  have g2 : Gm [] S1 H1 S1 (upd H1 p (.dK [])) := Gm.own g.i hp
  show t1 σ _ _
  refine h1 S1 _ () (g.tr g2) pot0' _ z hm _ fun l q1 vs S3 H3 _ g3 _ n3 e3 s3 _ r3 hm3 => ?_
  show t2 σ _ _
  refine h2 S3 H3 () ((g.tr g2).tr g3) pot0' _ z hm3 _ fun x v S4 H4 _ g4 _ r4 hm4 => ?_
  cases (show v = .int x from r4)
  have ed : H4 p = some (.dK []) := g4.h _ _ (by simp [pt0]) (g3.h _ _ (by simp [pt0]) upd_same)
  have eg : H4 q1 = some (.lst vs) := g4.h _ _ (by simp [pt0]) e3
  have sp : S4 p = none := (g3.tr g4).f _ _ upd_same (g.i.no hp)
  have sg : S4 q1 = none := g4.f _ _ e3 s3
  have ne : p ≠ q1 := by
    rintro rfl
    rw [upd_same] at n3
    cases n3
  refine ⟨ed, [(.inr "great", .ref q1), (.inr k1, .int x), (.inr "turn", .int 0)], rfl, by simp, ?_⟩
  have em : mergeK ([] : List (Key × V)) [(.inr "great", .ref q1), (.inr k1, .int x), (.inr "turn", .int 0)] = [(.inr "great", .ref q1), (.inr k1, .int x), (.inr "turn", .int 0)] := by
    simp [mergeK, putK, Ne.symm hk, hk, hk2, gt_ne]
  rw [em]
  have hv : vs = l.map V.int := All.ints r3
  subst hv
  refine q ⟨l, x, 0⟩ ⟨p, q1, ne⟩ S4 _ ⟨((g2.tr g3).tr g4).s, fun a u e => ?_, fun a u _ e => ?_, ((g2.tr g3).tr g4).f, fun a u e => ?_⟩ (pot_mk upd_same sp (by rw [upd_ne (Ne.symm ne)]; exact eg) sg) hp ?_ hm4
  · rw [upd_ne (by rintro rfl; rw [sp] at e; cases e)]; exact g4.i a u e
  · rw [upd_ne (by rintro rfl; rw [hp] at e; cases e)]
    exact ((g2.tr g3).tr g4).h a u (by simp) e
  · by_cases z : a = p
    · subst z; rw [hp] at e; cases e
    · obtain ⟨u', e'⟩ := ((g2.tr g3).tr g4).t a u e
      exact ⟨u', by rw [upd_ne z]; exact e'⟩
  · exact back_none g2 n3
theorem q_retP {m : (PotT → Option β) → Option β} {k : PotT → Option β} (w : Wd pt0 S0 H0 S H L) (h : EvP hd te σ S H m) (hm : Mir.run (m fun a => bnd a k) () = some z)
    (nx : ∀ s i S1 H1, Gm [] S0 H0 S1 H1 → PotAt (potOf hd i) s S1 H1 → H0 i.a = none → H0 i.g = none → Mir.run (k s) () = some z → D.rt (.ref i.a) H1) : tSeq (tRet te) tz D σ H :=
  h S H (Gm.rf w.i) _ z hm _ fun s i S1 H1 g1 p1 n1 n2 hm1 => nx s i S1 H1 (w.g.tr g1) p1 (back_none w.g n1) (back_none w.g n2) hm1
def spP (hd : Addr → Int → Int → HO) (fm : List Int → Option PotT) (K : PySem.W.Frag) : Sp := fun vs H Q _ => ∃ a S s, Ex S H ∧ (aOne (rX K)) a vs S ∧ fm a = some s ∧
  ∀ i S' H', Gm [] S H S' H' → PotAt (potOf hd i) s S' H' → H i.a = none → H i.g = none → Q (.ref i.a) H'
/-- the law's first line -/
theorem q_pot {fm : List Int → Option PotT} {j : Nat} {v : V} {a : List Int} {s : PotT} (ex : Ex S H) (e : σ[0]? = some (some v)) (r : rX K a v S) (hf : fm a = some s) (σ' : V → St) (hσ : ∀ v, σ.set j (some v) = σ' v)
    (nx : ∀ i S1 H1, Wd (potOf hd i) S1 H1 S1 H1 [] → PotAt (potOf hd i) s S1 H1 → Ex S S1 → tz D (σ' (.ref i.a)) H1) : tSeq (tAsg (tCall (spP hd fm K) [] E0 (tCons (tVar 0) tNil)) (gName j)) tz D σ H :=
  ⟨v, e, a, S, s, ex, ⟨v, rfl, r⟩, hf, fun i S1 H1 g1 p1 _ _ => by
    have q := nx i S1 H1 (Wd.start g1.i) p1 g1.s
    rw [← hσ] at q
    exact q⟩
/-- the law's promise: its answer is True -/
def spLaw (K : PySem.W.Frag) (ok : List Int → Prop) : Sp := fun vs H Q _ => ∃ a, (aOne (rX K)) a vs H ∧ ok a ∧ ∀ H', Q (.bl true) H'
end
end Wk
set_option Elab.async false
set_option maxRecDepth 100000
set_option maxHeartbeats 4000000
set_option linter.all false
/-! W8: sums of tuples, the pot as a list -/
namespace Wk
open PySem L2
open PyProof.Rows hiding St
def rSumT (K : PySem.W.Frag) : List V → Hp → VK → Prop := fun vs H Q => ∃ (a : Addr) (ns : List Int), vs = [V.ref a] ∧ SqT K H a (ns.map V.int) ∧ Q (.int ns.sum) H
section
variable {X : Cx}
theorem cr_sumT (hc : X.calm = true) : CallR X (.builtin "sum") (rSumT X.K) := by
  intro pins s σ H vs us Q I r h
  obtain ⟨a, ns, rfl, hs, q⟩ := h
  obtain ⟨its, rv, ht, _⟩ := I.tuple hs
  rw [Vals.ref1 r]
  have ht : s.heap.IsTuple a its.toArray := by
    obtain ⟨o, ho, hcl, n, hd⟩ := ht
    exact ⟨o, ho, hcl, n, hd⟩
  have hi : IntsAre its ns := rv.ints
  obtain ⟨xs, hx⟩ := hi.allInts.items
  have hn : numsOf its.toArray.toList = ns := by rw [show its.toArray.toList = its from rfl, hi.numsOf]
  rw [hx] at ht hn
  rw [nums_intItems] at hn
  refine PySem.W.ktm_sumG (I.ok.hd hc) ht fun h' tk t' hk => ⟨.int ns.sum, H, I.kept hk, ?_, q⟩
  rw [preSum_eq, List.take_of_length_le (by simp), hn]
  exact ⟨_, rfl⟩
theorem k_sumT (K : PySem.W.Frag) (hc : X.calm = true := by rfl) (h : X.K = K := by rfl) : CallR X (.builtin "sum") (rSumT K) := h ▸ cr_sumT hc
end
section
variable {μ : Type → Type} {τ : Type} [Mir μ τ] {α β : Type} {p : Pt τ} {σ : St} {S H : Hp} {te ta tb : TE} {K : PySem.W.Frag}
theorem c_sumT {m : (List Int → μ β) → μ β} (h : Ev p te σ S H m (rT K (aAll rI))) : Ev p (tCB (rSumT K) (tCons te tNil)) σ S H (fun k => m fun xs => k xs.sum) rI := fun S1 H1 s g ps k z hm Q q =>
  h S1 H1 s g ps _ z hm _ fun xs v S2 H2 s2 g2 p2 ⟨x, vs, e2, h2, r2⟩ hm2 => ⟨x, xs, by rw [e2], by rw [← All.ints r2]; exact sqT_ex g2.i h2, q _ _ S2 H2 s2 g2 p2 rfl hm2⟩
end
section
variable {β : Type} {i : PotI} {σ : St} {S H S0 H0 : Hp} {te ta tb t1 t2 : TE} {K : PySem.W.Frag} {z : β × PotT} {L : List (Addr × HO)} {s : PotT} {tz : TS} {D : Ends} {hd : Addr → Int → Int → HO}
/-! as a list -/
theorem dL_ix {j : Nat} {c : Int} {v : V} (ps : PotAt (potOf hdL i) s S H) (e : σ[j]? = some (some (.ref i.a))) (hv : atI [V.ref i.g, .int s.mix, .int s.turn] c = some v) {Q : VK} (q : Q v H) : tOp (rIxL K) (tVar j) (tC (.int c)) σ H Q :=
  ⟨.ref i.a, e, i.a, _, c, v, rfl, rfl, .of (pot_hd ps).1, hv, q⟩
theorem dL_G {j : Nat} (e : σ[j]? = some (some (.ref i.a))) : Ev (μ := PM PotT) (β := β) (potOf hdL i) (tOp (rIxL K) (tVar j) (tC (.int 0))) σ S H (fun k => k ()) (rG i) := fun S1 H1 s g ps k z hm Q q =>
  dL_ix ps e rfl (q () _ S1 H1 s (Gm.rf g.i) ps rfl hm)
theorem dL_S {j : Nat} (e : σ[j]? = some (some (.ref i.a))) : Ev (μ := PM PotT) (β := β) (potOf hdL i) (tOp (rIxL K) (tVar j) (tC (.int 1))) σ S H (fun k => potS >>= fun s => k s.mix) rI :=
  e_pot (α := Int) (fun s => s.mix) fun s S1 H1 ex ps Q q => dL_ix ps e rfl (q _ rfl)
theorem dL_T {j : Nat} (e : σ[j]? = some (some (.ref i.a))) : Ev (μ := PM PotT) (β := β) (potOf hdL i) (tOp (rIxL K) (tVar j) (tC (.int 2))) σ S H (fun k => potS >>= fun s => k s.turn) rI :=
  e_pot (α := Int) (fun s => s.turn) fun s S1 H1 ex ps Q q => dL_ix ps e rfl (q _ rfl)
theorem qL_T {j : Nat} {m : (Int → PM PotT β) → PM PotT β} {k : PM PotT β} (w : Wd (potOf hdL i) S0 H0 S H L) (ps : PotAt (potOf hdL i) s S H) (e : σ[j]? = some (some (.ref i.a))) (h : Ev (potOf hdL i) te σ S H m rI)
    (hm : Mir.run (m fun a => potW (fun s => { s with turn := a }) >>= fun _ => k) s = some z)
    (nx : ∀ S1 H1 s1, Wd (potOf hdL i) S0 H0 S1 H1 L → PotAt (potOf hdL i) s1 S1 H1 → Gm (potOf hdL i).M S H S1 H1 → Mir.run k s1 = some z → tz D σ H1) : tSeq (tAsg te (gSub (tVar j) (tC (.int 2)) rSetL)) tz D σ H :=
  h S H s (Gm.rf w.i) ps _ z hm _ fun a v S1 H1 s1 g p1 r hm1 => by
    cases (show v = .int a from r)
    obtain ⟨u, s2, e1, hm2⟩ := run_of_bind hm1
    cases e1
    obtain ⟨p2, g2⟩ := pot_ph g.i p1 s1.mix a
    exact ⟨.ref i.a, e, i.a, _, 2, 2, rfl, rfl, (pot_hd p1).1, rfl, nx S1 _ _ ((w.go g).go g2) p2 (g.tr g2) hm2⟩
/-- great.pop() -/
def popL : PM PotT Int := fun s => match s.great.getLast? with | none => none | some c => some (c, { s with great := s.great.dropLast })
theorem e_popL {m : (Unit → PM PotT β) → PM PotT β} (h : Ev (potOf hd i) te σ S H m (rG i)) : Ev (potOf hd i) (tBM0 K "list" rPop te) σ S H (fun k => m fun _ => popL >>= k) rI := fun S1 H1 s g ps k z hm Q q =>
  h S1 H1 s g ps _ z hm _ fun _ v S2 H2 s2 g2 p2 r hm2 => by
    cases (show v = .ref i.g from r)
    refine ⟨ty_G p2, ?_⟩
    obtain ⟨c, s3, e1, hm3⟩ := run_of_bind hm2
    have e1 : popL s2 = some (c, s3) := e1
    unfold popL at e1
    cases e : s2.great.getLast? with
    | none => rw [e] at e1; cases e1
    | some b =>
      rw [e] at e1
      obtain ⟨rfl, rfl⟩ := Prod.mk.inj (Option.some.inj e1)
      obtain ⟨p3, g3⟩ := pot_pg g2.i p2 s2.great.dropLast
      refine ⟨i.g, s2.great.map V.int, .int b, rfl, rfl, (pot_gr p2).1, ?_, ?_⟩
      · rw [List.length_map, List.getElem?_map, ← List.getLast?_eq_getElem?, e]; rfl
      rw [← List.map_dropLast]
      exact q b _ S2 _ _ (g2.tr g3) p3 rfl hm3
/-- great.append(e) -/
theorem e_appG {m : (Unit → PM PotT β) → PM PotT β} {m' : (Int → PM PotT β) → PM PotT β} (h : Ev (potOf hd i) te σ S H m (rG i)) (h' : Ev (potOf hd i) ta σ S H m' rI) : Ev (potOf hd i) (tBM K "list" rAppend te (tCons ta tNil)) σ S H
      (fun k => m fun _ => m' fun a => potS >>= fun s => Mir.lft (grd (s.great.length < 16000000)) >>= fun _ => potW (fun s => { s with great := s.great ++ [a] }) >>= k) rN := fun S1 H1 s g ps k z hm Q q =>
  h S1 H1 s g ps _ z hm _ fun _ v S2 H2 s2 g2 p2 r hm2 => by
    cases (show v = .ref i.g from r)
    refine ⟨ty_G p2, h' S2 H2 s2 (g.tr g2) p2 _ z hm2 _ fun a u S3 H3 s3 g3 p3 r3 hm3 => ?_⟩
    cases (show u = .int a from r3)
    obtain ⟨s4, s5, e1, hm4⟩ := run_of_bind hm3
    cases e1
    obtain ⟨_, e2, hm5⟩ := run_of_lft hm4
    have hl := grd_of e2
    obtain ⟨_, s6, e3, hm6⟩ := run_of_bind hm5
    cases e3
    obtain ⟨p4, g4⟩ := pot_pg g3.i p3 (s3.great ++ [a])
    refine ⟨i.g, s3.great.map V.int, .int a, rfl, rfl, (pot_gr p3).1, by rw [List.length_map, sizeLine_eq]; omega, ?_⟩
    rw [show (s3.great.map V.int ++ [V.int a]) = (s3.great ++ [a]).map V.int by simp]
    exact q () _ S3 _ _ ((g2.tr g3).tr g4) p4 rfl hm6
end
section
variable {β : Type} {σ : St} {S H : Hp} {t1 t2 : TE}
theorem pot_lst {m1 : (List Int → Option β) → Option β} {m2 : (Int → Option β) → Option β} (h1 : EvL pt0 t1 σ S H m1 (aAll rI)) (h2 : Ev pt0 t2 σ S H m2 rI) :
    EvP hdL (tLst (tCons t1 (tCons t2 (tCons (tC (.int 0)) tNil)))) σ S H (fun k => m1 fun l => m2 fun x => k ⟨l, x, 0⟩) := fun S1 H1 g k z hm Q q => by
  refine h1 S1 H1 () g pot0' _ z hm _ fun l q1 vs S3 H3 _ g3 _ n3 e3 s3 _ r3 hm3 => ?_
  refine h2 S3 H3 () (g.tr g3) pot0' _ z hm3 _ fun x v S4 H4 _ g4 _ r4 hm4 => ?_
  cases (show v = .int x from r4)
  have eg : H4 q1 = some (.lst vs) := g4.h _ _ (by simp [pt0]) e3
  have sg : S4 q1 = none := g4.f _ _ e3 s3
  have hv : vs = l.map V.int := All.ints r3
  subst hv
  refine ⟨by rw [sizeLine_eq]; simp, fun p hp => ?_⟩
  have ne : p ≠ q1 := by
    rintro rfl
    rw [eg] at hp
    cases hp
  have g5 : Gm [] S4 H4 S4 (upd H4 p (.lst [.ref q1, .int x, .int 0])) := Gm.own g4.i hp
  exact q ⟨l, x, 0⟩ ⟨p, q1, ne⟩ S4 _ ((g3.tr g4).tr g5) (pot_mk upd_same (g4.i.no hp) (by rw [upd_ne (Ne.symm ne)]; exact eg) sg) (back_none (g3.tr g4) hp) n3 hm4
end
end Wk
set_option Elab.async false
set_option maxRecDepth 100000
set_option maxHeartbeats 4000000
set_option linter.all false
/-! W9: what is never reached, typed ==, sorted, tuples taken apart -/
namespace Wk
open PySem L2
open PyProof.Rows hiding St
theorem ps_dead {X : Cx} {st : Stmt} : PS X st (fun _ _ _ => False) := ⟨fun _ _ _ _ _ _ h => h.elim⟩
section
variable {μ : Type → Type} {τ : Type} [Mir μ τ] {α β γ : Type} {p : Pt τ} {σ : St} {S H S0 H0 : Hp} {te ta tb : TE} {K : PySem.W.Frag} {s : τ} {tz : TS} {D : Ends} {z : β × τ}
/-- a raise that is never reached -/
theorem q_dead {k : Unit → μ β} (hm : Mir.run (Mir.lft (none : Option Unit) >>= k) s = some z) : tSeq (fun _ _ _ => False) tz D σ H := by
  obtain ⟨_, e, _⟩ := run_of_lft hm
  cases e
/-- x is True, x is False -/
theorem e_isB {m m' : (Bool → μ β) → μ β} (h : Ev p ta σ S H m rB) (h' : Ev p tb σ S H m' rB) : Ev p (tOp rIsB ta tb) σ S H (fun k => m fun a => m' fun b => k (decide (a = b))) rB := fun S1 H1 s g ps k z hm Q q =>
  h S1 H1 s g ps _ z hm _ fun a v S2 H2 s2 g2 p2 r hm2 => h' S2 H2 s2 (g.tr g2) p2 _ z hm2 _ fun b u S3 H3 s3 g3 p3 r3 hm3 => ⟨a, b, r, r3, q _ _ S3 H3 s3 (g2.tr g3) p3 rfl hm3⟩
theorem e_notB {m m' : (Bool → μ β) → μ β} (h : Ev p ta σ S H m rB) (h' : Ev p tb σ S H m' rB) : Ev p (tOp rNotB ta tb) σ S H (fun k => m fun a => m' fun b => k (!decide (a = b))) rB := fun S1 H1 s g ps k z hm Q q =>
  h S1 H1 s g ps _ z hm _ fun a v S2 H2 s2 g2 p2 r hm2 => h' S2 H2 s2 (g.tr g2) p2 _ z hm2 _ fun b u S3 H3 s3 g3 p3 r3 hm3 => ⟨a, b, r, r3, q _ _ S3 H3 s3 (g2.tr g3) p3 rfl hm3⟩
theorem Ev.eta {m : (α → μ β) → μ β} {R : Rp α} (h : Ev p te σ S H (fun k => m k) R) : Ev p te σ S H m R := h
theorem EvL.eta {m : (α → μ β) → μ β} {A : Rq α} (h : EvL p te σ S H (fun k => m k) A) : EvL p te σ S H m A := h
/-! ### == of values of one kind -/
/-- data that is told apart as the values are -/
structure EqD (D : Nat) (d : α → PyData) : Prop where
  e : ∀ a b, PyData.eqv (d a) (d b) = true ↔ a = b
  l : ∀ a, (d a).canLay0 = true
  d : ∀ a, (d a).depth ≤ D
structure EqDs (D : Nat) (d : α → List PyData) : Prop where
  e : ∀ a b, PyData.eqvAll (d a) (d b) = true ↔ a = b
  l : ∀ a, PyData.canLayAll0 (d a) = true
  d : ∀ a, PyData.depthAll (d a) ≤ D
theorem q_I : EqD 0 PyData.int := ⟨fun a b => by simp only [PyData.eqv]; exact beq_iff_eq, fun _ => rfl, fun _ => by simp only [PyData.depth]; exact Nat.le_refl _⟩
theorem q_B : EqD 0 PyData.bool := ⟨fun a b => by simp only [PyData.eqv]; exact beq_iff_eq, fun _ => rfl, fun _ => by simp only [PyData.depth]; exact Nat.le_refl _⟩
theorem qs_nil : EqDs 0 (fun _ : Unit => []) := ⟨fun a b => by simp only [PyData.eqvAll], fun _ => rfl, fun _ => by simp only [PyData.depthAll]; exact Nat.le_refl _⟩
theorem qs_one {n : Nat} {d : α → PyData} (h : EqD n d) : EqDs n (fun a => [d a]) := ⟨fun a b => by simp only [PyData.eqvAll, Bool.and_true]; exact h.e a b, fun a => by simp only [PyData.canLayAll0, Bool.and_true]; exact h.l a, fun a => by simp only [PyData.depthAll]; have := h.d a; omega⟩
theorem qs_cons {n m : Nat} {d : α → PyData} {ds : γ → List PyData} (h : EqD n d) (h' : EqDs m ds) : EqDs (max n m) (fun a : α × γ => d a.1 :: ds a.2) :=
  ⟨fun a b => by simp only [PyData.eqvAll, Bool.and_eq_true]; rw [h.e, h'.e]; exact Prod.ext_iff.symm, fun a => by simp only [PyData.canLayAll0, Bool.and_eq_true]; exact ⟨h.l _, h'.l _⟩, fun a => by simp only [PyData.depthAll]; have := h.d a.1; have := h'.d a.2; omega⟩
theorem qs_all {n : Nat} {d : α → PyData} (h : EqD n d) : EqDs n (fun xs : List α => xs.map d) := by
  refine ⟨fun a b => ?_, fun a => ?_, fun a => ?_⟩
  · induction a generalizing b with
    | nil => cases b <;> simp [PyData.eqvAll]
    | cons x a ih =>
      cases b with
      | nil => simp [PyData.eqvAll]
      | cons y b =>
        simp only [List.map_cons, PyData.eqvAll, Bool.and_eq_true]
        rw [h.e, ih, List.cons.injEq]
  · induction a with
    | nil => rfl
    | cons x a ih => simp only [List.map_cons, PyData.canLayAll0, Bool.and_eq_true]; exact ⟨h.l x, ih⟩
  · induction a with
    | nil => simp only [List.map_nil, PyData.depthAll]; omega
    | cons x a ih => simp only [List.map_cons, PyData.depthAll]; have := h.d x; omega
theorem q_T {n : Nat} {ds : α → List PyData} (h : EqDs n ds) : EqD (n + 1) (fun a => PyData.tuple (ds a)) := ⟨fun a b => by simp only [PyData.eqv]; exact h.e a b, fun a => by simp only [PyData.canLay0]; exact h.l a, fun a => by simp only [PyData.depth]; have := h.d a; omega⟩
theorem q_L {n : Nat} {ds : α → List PyData} (h : EqDs n ds) : EqD (n + 1) (fun a => PyData.list (ds a)) := ⟨fun a b => by simp only [PyData.eqv]; exact h.e a b, fun a => by simp only [PyData.canLay0]; exact h.l a, fun a => by simp only [PyData.depth]; have := h.d a; omega⟩
theorem EqD.sh {n : Nat} {d : α → PyData} (h : EqD n d) (hn : n ≤ 64) (a : α) : ShD (d a) := by
  unfold ShD SeqAt.shaped
  rw [h.l a, decide_eq_true (Nat.le_trans (h.d a) hn)]; rfl
theorem EqD.dec [DecidableEq α] {n : Nat} {d : α → PyData} (h : EqD n d) (a b : α) : PyData.eqv (d a) (d b) = decide (a = b) := by
  by_cases q : a = b
  · rw [decide_eq_true q]; exact (h.e a b).mpr q
  · rw [decide_eq_false q]
    cases e : PyData.eqv (d a) (d b) with
    | false => rfl
    | true => exact absurd ((h.e a b).mp e) q
/-- data known as a value -/
def EvQ (K : PySem.W.Frag) (d : α → PyData) (p : Pt τ) (te : TE) (σ : St) (S H : Hp) (m : (α → μ β) → μ β) : Prop :=
  ∀ S1 H1 s, Gm p.M S H S1 H1 → PotAt p s S1 H1 → ∀ (k : α → μ β) z, Mir.run (m k) s = some z → ∀ Q : VK,
    (∀ a v S2 H2 s2, Gm p.M S1 H1 S2 H2 → PotAt p s2 S2 H2 → (∀ S3 H3, Gm p.M S2 H2 S3 H3 → Dp K H3 v (d a)) → Mir.run (k a) s2 = some z → Q v H2) → te σ H1 Q
theorem Ev.Q {R : Rp α} [Mo R] {d : α → PyData} {m : (α → μ β) → μ β} (h : Ev p te σ S H m R) (hd : isD K R d) : EvQ K d p te σ S H m := fun S1 H1 s g ps k z hm Q q =>
  h S1 H1 s g ps _ z hm _ fun a v S2 H2 s2 g2 p2 r hm2 => q a v S2 H2 s2 g2 p2 (fun S3 H3 g3 => hd a v S3 H3 (Mo.mo g3.s r) g3.i) hm2
theorem EvR.Q {A : Rq α} [Mo A] {d : α → List PyData} {m : (α → μ β) → μ β} (h : EvR p te σ S H m A) (hd : isDs K A d) : EvQ K (fun a => .list (d a)) p te σ S H m := fun S1 H1 s g ps k z hm Q q =>
  h S1 H1 s g ps _ z hm _ fun a x vs S2 H2 s2 g2 p2 e m2 r hm2 => q a (.ref x) S2 H2 s2 g2 p2 (fun S3 H3 g3 => .lst (.of (g3.h _ _ m2 e)) (hd a vs S3 H3 (Mo.mo g3.s r) g3.i)) hm2
theorem e_eqQ [DecidableEq α] {n : Nat} {d : α → PyData} {m m' : (α → μ β) → μ β} (hd : EqD n d) (hn : n ≤ 64) (h : EvQ K d p ta σ S H m) (h' : EvQ K d p tb σ S H m') : Ev p (tOp (rEqD K) ta tb) σ S H (fun k => m fun a => m' fun b => k (decide (a = b))) rB := fun S1 H1 s g ps k z hm Q q =>
  h S1 H1 s g ps _ z hm _ fun a v S2 H2 s2 g2 p2 r hm2 => h' S2 H2 s2 (g.tr g2) p2 _ z hm2 _ fun b u S3 H3 s3 g3 p3 r3 hm3 =>
    ⟨d a, d b, r _ _ g3, r3 _ _ (Gm.rf g3.i), hd.sh hn a, hd.sh hn b, q _ _ S3 H3 s3 (g2.tr g3) p3 (by rw [hd.dec]; rfl) hm3⟩
theorem e_neQ [DecidableEq α] {n : Nat} {d : α → PyData} {m m' : (α → μ β) → μ β} (hd : EqD n d) (hn : n ≤ 64) (h : EvQ K d p ta σ S H m) (h' : EvQ K d p tb σ S H m') : Ev p (tOp (rNeD K) ta tb) σ S H (fun k => m fun a => m' fun b => k (!decide (a = b))) rB := fun S1 H1 s g ps k z hm Q q =>
  h S1 H1 s g ps _ z hm _ fun a v S2 H2 s2 g2 p2 r hm2 => h' S2 H2 s2 (g.tr g2) p2 _ z hm2 _ fun b u S3 H3 s3 g3 p3 r3 hm3 =>
    ⟨d a, d b, r _ _ g3, r3 _ _ (Gm.rf g3.i), hd.sh hn a, hd.sh hn b, q _ _ S3 H3 s3 (g2.tr g3) p3 (by rw [hd.dec]; rfl) hm3⟩
/-! ### sorted -/
def ins1 (x : Int) : List Int → List Int
  | [] => [x]
  | y :: r => if x ≤ y then x :: y :: r else y :: ins1 x r
def srt : List Int → List Int
  | [] => []
  | x :: r => ins1 x (srt r)
theorem ins1_perm (x : Int) : ∀ l, (ins1 x l).Perm (x :: l)
  | [] => .refl _
  | y :: r => by
    unfold ins1
    split
    · exact .refl _
    · exact ((ins1_perm x r).cons y).trans (.swap x y r)
theorem srt_perm : ∀ l, (srt l).Perm l
  | [] => .refl _
  | x :: r => (ins1_perm x (srt r)).trans ((srt_perm r).cons x)
theorem ins1_sorted (x : Int) : ∀ l, List.Pairwise (· ≤ ·) l → List.Pairwise (· ≤ ·) (ins1 x l)
  | [], _ => by simp [ins1]
  | y :: r, h => by
    unfold ins1
    obtain ⟨h1, h2⟩ := List.pairwise_cons.mp h
    split
    · rename_i hx
      refine List.pairwise_cons.mpr ⟨fun a ha => ?_, h⟩
      rcases List.mem_cons.mp ha with e | ha
      · omega
      · have := h1 a ha; omega
    · rename_i hx
      refine List.pairwise_cons.mpr ⟨fun a ha => ?_, ins1_sorted x r h2⟩
      rcases List.mem_cons.mp ((ins1_perm x r).mem_iff.mp ha) with e | ha
      · omega
      · exact h1 a ha
theorem srt_sorted : ∀ l, List.Pairwise (· ≤ ·) (srt l)
  | [] => .nil
  | x :: r => ins1_sorted x _ (srt_sorted r)
theorem sorted_one {a b : List Int} (h : a.Perm b) (ha : List.Pairwise (· ≤ ·) a) (hb : List.Pairwise (· ≤ ·) b) : a = b :=
  h.eq_of_pairwise (fun x y _ _ h1 h2 => Int.le_antisymm h1 h2) ha hb
theorem l_srt {m : (List Int → μ β) → μ β} (h : EvR p te σ S H m (aAll rI)) : EvL p (tCB (rSortedI K) (tCons te tNil)) σ S H (fun k => m fun xs => k (srt xs)) (aAll rI) := fun S1 H1 s g ps k z hm Q q =>
  h S1 H1 s g ps _ z hm _ fun xs x vs S2 H2 s2 g2 p2 e2 m2 r2 hm2 => ⟨x, xs, rfl, .of (by rw [e2, All.ints r2]), fun ns y h1 h2 hy => by
    have e : ns = srt xs := sorted_one (h1.trans (srt_perm xs).symm) h2 (srt_sorted xs)
    subst e
    exact q (srt xs) y _ S2 _ s2 (g2.tr (Gm.own g2.i hy)) (p2.go (Gm.own g2.i hy)) (back_none g2 hy) upd_same (g2.i.no hy) (new_nM p2 hy) (All.ofInts _) hm2⟩
/-- a list of ones own goes over to another name, and stays as it is from here on -/
theorem q_mv {i n j : Nat} {q : Addr} {vs : List V} {xs : List α} {R : Rp α} [Mo R] {L : List (Addr × HO)} {k : List α → μ β} (σ' : St) (hσ : σ.set n (some (.ref q)) = σ') (w : Wd p S0 H0 S H L) (ps : PotAt p s S H) (hj : L[j]? = some (q, .lst vs)) (e : σ[i]? = some (some (.ref q))) (ha : All R S xs vs)
    (hm : Mir.run (bnd xs k) s = some z) (nx : ∀ S1, Wd p S0 H0 S1 H (L.eraseIdx j) → PotAt p s S1 H → Ex S S1 → rL (aAll R) xs (.ref q) S1 → Mir.run (k xs) s = some z → tz D σ' H) : tSeq (tAsg (tVar i) (gName n)) tz D σ H :=
  ⟨.ref q, e, by
    have h := nx (upd S q (.lst vs)) (w.frz hj) (ps.frz (w.nmAt hj)) (ex_frz (w.at hj).2.1) ⟨q, vs, rfl, upd_same, ha.mo (ex_frz (w.at hj).2.1)⟩ hm
    rw [← hσ] at h
    exact h⟩
/-! ### a tuple of one kind taken apart -/
def two? : List α → Option (α × α)
  | [a, b] => some (a, b)
  | _ => none
theorem two_all {R : Rp α} {xs : List α} {vs : List V} {ab : α × α} (r : All R S xs vs) (e : two? xs = some ab) : aCons R (aOne R) ab vs S := by
  cases r with
  | nil => cases e
  | cons ra t =>
    cases t with
    | nil => cases e
    | cons rb t =>
      cases t with
      | nil =>
        cases e
        exact ⟨_, _, rfl, ra, _, rfl, rb⟩
      | cons _ _ => cases e
theorem e_two {R : Rp α} {m : (List α → μ β) → μ β} (h : Ev p te σ S H m (rT K (aAll R))) : Ev p te σ S H (fun k => m fun xs => Mir.lft (two? xs) >>= k) (rT K (aCons R (aOne R))) := fun S1 H1 s g ps k z hm Q q =>
  h S1 H1 s g ps _ z hm _ fun xs v S2 H2 s2 g2 p2 r hm2 => by
    obtain ⟨ab, e, hm3⟩ := run_of_lft hm2
    obtain ⟨x, vs, e2, h2, r2⟩ := r
    exact q ab v S2 H2 s2 g2 p2 ⟨x, vs, e2, h2, two_all r2 e⟩ hm3
end
section
variable {X : Cx}
theorem k_srt (K : PySem.W.Frag) (h : X.K = K := by rfl) : CallR X (.builtin "sorted") (rSortedI K) := h ▸ cr_sortedI
end
end Wk
set_option Elab.async false
set_option maxRecDepth 100000
set_option maxHeartbeats 4000000
set_option linter.all false
/-! M0: what a mirror gives, told by rules -/
namespace Wk
open PySem L2
open PyProof.Rows hiding St
section
variable {μ : Type → Type} {τ : Type} [Mir μ τ] {α β γ ζ ρ : Type} {s : τ} {P : β → τ → Prop}
/-- from s on m ends with a value and a state of P -/
def Tt (s : τ) (m : μ α) (P : α → τ → Prop) : Prop := ∃ a s1, Mir.run m s = some (a, s1) ∧ P a s1
theorem tt_pure {a : β} : Tt s (pure a : μ β) P ↔ P a s := by
  constructor
  · rintro ⟨b, s1, e, h⟩
    cases run_of_pure e
    exact h
  · intro h
    exact ⟨a, s, Mir.run_pure _ _, h⟩
theorem tt_bind {m : μ α} {k : α → μ β} : Tt s (m >>= k) P ↔ Tt s m (fun a s1 => Tt s1 (k a) P) := by
  constructor
  · rintro ⟨b, s1, e, h⟩
    obtain ⟨a, s2, e1, e2⟩ := run_of_bind e
    exact ⟨a, s2, e1, b, s1, e2, h⟩
  · rintro ⟨a, s2, e1, b, s1, e2, h⟩
    refine ⟨b, s1, ?_, h⟩
    rw [Mir.run_bind, e1]
    exact e2
theorem tt_grd {c : Prop} [Decidable c] {k : Unit → μ β} : Tt s (Mir.lft (grd c) >>= k) P ↔ c ∧ Tt s (k ()) P := by
  constructor
  · rintro ⟨b, s1, e, h⟩
    obtain ⟨u, e1, e2⟩ := run_of_lft e
    exact ⟨grd_of e1, b, s1, e2, h⟩
  · rintro ⟨hc, b, s1, e, h⟩
    refine ⟨b, s1, ?_, h⟩
    rw [Mir.run_bind, Mir.run_lft, grd, if_pos hc]
    exact e
theorem tt_grP {c : Prop} {k : Unit → μ β} : Tt s (Mir.lft (grP c) >>= k) P ↔ c ∧ Tt s (k ()) P := by
  constructor
  · rintro ⟨b, s1, e, h⟩
    obtain ⟨u, e1, e2⟩ := run_of_lft e
    exact ⟨grP_of e1, b, s1, e2, h⟩
  · rintro ⟨hc, b, s1, e, h⟩
    refine ⟨b, s1, ?_, h⟩
    rw [Mir.run_bind, Mir.run_lft, grP, if_pos hc]
    exact e
theorem tt_lft {o : Option α} {a : α} (e : o = some a) {k : α → μ β} : Tt s (Mir.lft o >>= k) P ↔ Tt s (k a) P := by
  subst e
  constructor
  · rintro ⟨b, s1, e, h⟩
    obtain ⟨u, e1, e2⟩ := run_of_lft e
    cases e1
    exact ⟨b, s1, e2, h⟩
  · rintro ⟨b, s1, e, h⟩
    refine ⟨b, s1, ?_, h⟩
    rw [Mir.run_bind, Mir.run_lft]
    exact e
theorem tt_bnd {a : α} {k : α → μ β} : Tt s (bnd a k) P ↔ Tt s (k a) P := Iff.rfl
theorem tt_ite {c : Prop} [Decidable c] {x y : μ β} : Tt s (if c then x else y) P ↔ if c then Tt s x P else Tt s y P := by
  by_cases h : c
  · rw [if_pos h, if_pos h]
  · rw [if_neg h, if_neg h]
theorem Tt.mono {m : μ β} {P' : β → τ → Prop} (h : Tt s m P) (i : ∀ a s1, P a s1 → P' a s1) : Tt s m P' := by
  obtain ⟨a, s1, e, q⟩ := h
  exact ⟨a, s1, e, i a s1 q⟩
theorem Tt.then {m : μ α} {k : α → μ β} {P' : α → τ → Prop} (h : Tt s m P') (i : ∀ a s1, P' a s1 → Tt s1 (k a) P) : Tt s (m >>= k) P := tt_bind.mpr (h.mono i)
theorem Tt.lft {o : Option α} {Q : α → Prop} (h : ∃ a, o = some a ∧ Q a) {k : α → μ β} (i : ∀ a, Q a → Tt s (k a) P) : Tt s (Mir.lft o >>= k) P := by
  obtain ⟨a, e, q⟩ := h
  exact (tt_lft e).mpr (i a q)
theorem Tt.pos {c : Prop} [Decidable c] {x y : μ β} (h : c) (i : Tt s x P) : Tt s (if c then x else y) P := by rw [if_pos h]; exact i
theorem Tt.neg {c : Prop} [Decidable c] {x y : μ β} (h : ¬ c) (i : Tt s y P) : Tt s (if c then x else y) P := by rw [if_neg h]; exact i
/-- a pure one -/
theorem tt_eq {m : Option α} {v : α} (h : Tt () m (fun a _ => a = v)) : m = some v := by
  obtain ⟨a, s1, e, rfl⟩ := h
  cases m with
  | none => cases e
  | some b => cases e; rfl
theorem tt_ex {m : Option α} {Q : α → Prop} (h : Tt () m (fun a _ => Q a)) : ∃ a, m = some a ∧ Q a := by
  obtain ⟨a, s1, e, q⟩ := h
  cases m with
  | none => cases e
  | some b => cases e; exact ⟨_, rfl, q⟩
theorem tt_of {m : Option α} {v : α} {P : α → Unit → Prop} (e : m = some v) (h : P v ()) : Tt () m P := by
  subst e
  exact ⟨v, (), rfl, h⟩

/-! ### loops -/
/-- while: I holds at the head, nu goes down, R behind -/
theorem Tt.wh {c : ζ → (Bool → μ ζ) → μ ζ} {b : ζ → μ ζ} {R : ζ → τ → Prop} (I : ζ → τ → Prop) (nu : ζ → Nat)
    (h : ∀ st s (k : Bool → μ ζ) (P : ζ → τ → Prop), I st s → (∀ t s1, (t = true → Tt s1 (b st) fun st' s2 => I st' s2 ∧ nu st' < nu st) → (t = false → R st s1) → Tt s1 (k t) P) → Tt s (c st k) P) :
    ∀ (n : Nat) (st : ζ) (s : τ), I st s → nu st < n → Tt s (whS n c b st) R
  | 0, st, s, _, hn => absurd hn (Nat.not_lt_zero _)
  | n + 1, st, s, hI, hn => by
    refine h st s _ _ hI fun t s1 h1 h2 => ?_
    cases t with
    | true =>
      refine Tt.pos rfl ((h1 rfl).then fun st' s2 q => ?_)
      exact Tt.wh I nu h n st' s2 q.1 (by omega)
    | false => exact Tt.neg (by simp) (tt_pure.mpr (h2 rfl))
theorem Tt.whC {c : ζ → (Bool → μ (Ctl ρ ζ)) → μ (Ctl ρ ζ)} {b : ζ → μ (Ctl ρ ζ)} {R : Ctl ρ ζ → τ → Prop} (I : ζ → τ → Prop) (nu : ζ → Nat)
    (h : ∀ st s (k : Bool → μ (Ctl ρ ζ)) (P : Ctl ρ ζ → τ → Prop), I st s → (∀ t s1, (t = true → Tt s1 (b st) fun o s2 => match o with | .go st' => I st' s2 ∧ nu st' < nu st | x => R x s2) → (t = false → R (.go st) s1) → Tt s1 (k t) P) → Tt s (c st k) P) :
    ∀ (n : Nat) (st : ζ) (s : τ), I st s → nu st < n → Tt s (Wk.whC n c b st) R
  | 0, st, s, _, hn => absurd hn (Nat.not_lt_zero _)
  | n + 1, st, s, hI, hn => by
    refine h st s _ _ hI fun t s1 h1 h2 => ?_
    cases t with
    | true =>
      refine Tt.pos rfl ((h1 rfl).then fun o s2 q => ?_)
      cases o with
      | go st' => exact Tt.whC I nu h n st' s2 q.1 (by have := q.2; omega)
      | brk x => exact tt_pure.mpr q
      | ret x => exact tt_pure.mpr q
    | false => exact Tt.neg (by simp) (tt_pure.mpr (h2 rfl))
/-- while, what goes down stands beside -/
theorem Tt.whI {c : ζ → (Bool → μ ζ) → μ ζ} {b : ζ → μ ζ} {R : ζ → τ → Prop} (I : Nat → ζ → τ → Prop)
    (h : ∀ j st s (k : Bool → μ ζ) (P : ζ → τ → Prop), I j st s → (∀ t s1, (t = true → Tt s1 (b st) fun st' s2 => ∃ j', j' < j ∧ I j' st' s2) → (t = false → R st s1) → Tt s1 (k t) P) → Tt s (c st k) P) :
    ∀ (n j : Nat) (st : ζ) (s : τ), I j st s → j < n → Tt s (whS n c b st) R
  | 0, j, st, s, _, hn => absurd hn (Nat.not_lt_zero _)
  | n + 1, j, st, s, hI, hn => by
    refine h j st s _ _ hI fun t s1 h1 h2 => ?_
    cases t with
    | true =>
      refine Tt.pos rfl ((h1 rfl).then fun st' s2 ⟨j', q1, q2⟩ => ?_)
      exact Tt.whI I h n j' st' s2 q2 (by omega)
    | false => exact Tt.neg (by simp) (tt_pure.mpr (h2 rfl))
/-- for: I tells what is left -/
theorem Tt.lp {f : α → ζ → μ ζ} (I : List α → ζ → τ → Prop) (h : ∀ x xs st s, I (x :: xs) st s → Tt s (f x st) (I xs)) : ∀ (xs : List α) (st : ζ) (s : τ), I xs st s → Tt s (lpS xs f st) (I [])
  | [], st, s, hI => tt_pure.mpr hI
  | x :: xs, st, s, hI => (h x xs st s hI).then fun st' s1 q => Tt.lp I h xs st' s1 q
theorem Tt.lpC {f : α → ζ → μ (Ctl ρ ζ)} {R : Ctl ρ ζ → τ → Prop} (I : List α → ζ → τ → Prop) (h : ∀ x xs st s, I (x :: xs) st s → Tt s (f x st) fun o s1 => match o with | .go st' => I xs st' s1 | y => R y s1)
    (h0 : ∀ st s, I [] st s → R (.go st) s) : ∀ (xs : List α) (st : ζ) (s : τ), I xs st s → Tt s (Wk.lpC xs f st) R
  | [], st, s, hI => tt_pure.mpr (h0 st s hI)
  | x :: xs, st, s, hI => (h x xs st s hI).then fun o s1 q => by
    cases o with
    | go st' => exact Tt.lpC I h h0 xs st' s1 q
    | brk y => exact tt_pure.mpr q
    | ret y => exact tt_pure.mpr q
theorem rng_step {lo hi : Int} (h : lo < hi) : rng lo hi = lo :: rng (lo + 1) hi := by
  unfold rng
  have e : (hi - lo).toNat = (hi - (lo + 1)).toNat + 1 := by omega
  rw [e, List.range_succ_eq_map, List.map_cons, List.map_map]
  congr 1
  · simp
  · apply List.map_congr_left
    intro k _
    simp only [Function.comp_apply]
    omega
theorem rng_no {lo hi : Int} (h : hi ≤ lo) : rng lo hi = [] := by
  unfold rng
  have e : (hi - lo).toNat = 0 := by omega
  rw [e]; rfl
theorem rng_len (lo hi : Int) : (rng lo hi).length = (hi - lo).toNat := by unfold rng; rw [List.length_map, List.length_range]
theorem mem_rng {lo hi x : Int} : x ∈ rng lo hi ↔ lo ≤ x ∧ x < hi := by
  unfold rng
  rw [List.mem_map]
  constructor
  · rintro ⟨k, hk, rfl⟩
    have := List.mem_range.mp hk
    omega
  · intro h
    exact ⟨(x - lo).toNat, List.mem_range.mpr (by omega), by omega⟩
/-- for x in range: I tells the place -/
theorem Tt.rg {f : Int → ζ → μ ζ} {hi : Int} (I : Int → ζ → τ → Prop) (h : ∀ x st s, x < hi → I x st s → Tt s (f x st) (I (x + 1))) : ∀ (n : Nat) (lo : Int) (st : ζ) (s : τ), lo + n = hi → I lo st s → Tt s (lpS (rng lo hi) f st) (I hi)
  | 0, lo, st, s, e, hI => by
    have : lo = hi := by omega
    subst this
    rw [rng_no (Int.le_refl _)]
    exact tt_pure.mpr hI
  | n + 1, lo, st, s, e, hI => by
    rw [rng_step (by omega)]
    exact (h lo st s (by omega) hI).then fun st' s1 q => Tt.rg I h n (lo + 1) st' s1 (by omega) q
theorem Tt.rgC {f : Int → ζ → μ (Ctl ρ ζ)} {hi : Int} {R : Ctl ρ ζ → τ → Prop} (I : Int → ζ → τ → Prop) (h : ∀ x st s, x < hi → I x st s → Tt s (f x st) fun o s1 => match o with | .go st' => I (x + 1) st' s1 | y => R y s1)
    (h0 : ∀ st s, I hi st s → R (.go st) s) : ∀ (n : Nat) (lo : Int) (st : ζ) (s : τ), lo + n = hi → I lo st s → Tt s (Wk.lpC (rng lo hi) f st) R
  | 0, lo, st, s, e, hI => by
    have : lo = hi := by omega
    subst this
    rw [rng_no (Int.le_refl _)]
    exact tt_pure.mpr (h0 _ _ hI)
  | n + 1, lo, st, s, e, hI => by
    rw [rng_step (by omega)]
    refine (h lo st s (by omega) hI).then fun o s1 q => ?_
    cases o with
    | go st' => exact Tt.rgC I h h0 n (lo + 1) st' s1 (by omega) q
    | brk y => exact tt_pure.mpr q
    | ret y => exact tt_pure.mpr q
/-- a comprehension: I tells what is left, what was found -/
theorem Tt.cmp {f : α → μ (Option γ)} {R : List γ → τ → Prop} (I : List α → List γ → τ → Prop) (h : ∀ x xs ys s, I (x :: xs) ys s → Tt s (f x) fun o s1 => I xs (ys ++ o.toList) s1) (h0 : ∀ ys s, I [] ys s → R ys s) : ∀ (xs : List α) (ys : List γ) (s : τ), I xs ys s → Tt s (Wk.cmp xs f) fun l s1 => R (ys ++ l) s1
  | [], ys, s, hI => tt_pure.mpr (by rw [List.append_nil]; exact h0 _ _ hI)
  | x :: xs, ys, s, hI => (h x xs ys s hI).then fun o s1 q => (Tt.cmp I h h0 xs _ s1 q).then fun l s2 r => tt_pure.mpr (by
      have e : ys ++ cns o l = ys ++ o.toList ++ l := by cases o <;> simp [cns]
      rw [e]; exact r)
/-- .. each item by itself -/
theorem tt_map {f : α → μ (Option γ)} {g : α → γ} : ∀ {xs : List α} {k : List γ → μ β}, (∀ x ∈ xs, ∀ s (Q : Option γ → τ → Prop), Q (some (g x)) s → Tt s (f x) Q) → (Tt s (k (xs.map g)) P → Tt s (Wk.cmp xs f >>= k) P) := by
  intro xs k h hk
  refine Tt.then (P' := fun l s1 => l = xs.map g ∧ s1 = s) ?_ (fun l s1 q => by rw [q.1, q.2]; exact hk)
  clear hk
  induction xs with
  | nil => exact tt_pure.mpr ⟨rfl, rfl⟩
  | cons x xs ih =>
    refine tt_bind.mpr (h x (List.mem_cons_self ..) s _ ?_)
    refine (ih fun y hy => h y (List.mem_cons_of_mem _ hy)).then fun l s1 q => tt_pure.mpr ⟨?_, q.2⟩
    rw [q.1]; rfl
theorem tt_filterMap {f : α → μ (Option γ)} {g : α → Option γ} : ∀ {xs : List α} {k : List γ → μ β}, (∀ x ∈ xs, ∀ s (Q : Option γ → τ → Prop), Q (g x) s → Tt s (f x) Q) → (Tt s (k (xs.filterMap g)) P → Tt s (Wk.cmp xs f >>= k) P) := by
  intro xs k h hk
  refine Tt.then (P' := fun l s1 => l = xs.filterMap g ∧ s1 = s) ?_ (fun l s1 q => by rw [q.1, q.2]; exact hk)
  clear hk
  induction xs with
  | nil => exact tt_pure.mpr ⟨rfl, rfl⟩
  | cons x xs ih =>
    refine tt_bind.mpr (h x (List.mem_cons_self ..) s _ ?_)
    refine (ih fun y hy => h y (List.mem_cons_of_mem _ hy)).then fun l s1 q => tt_pure.mpr ⟨?_, q.2⟩
    rw [q.1, List.filterMap_cons]
    cases g x <;> rfl
end
theorem lt_many {n : Nat} (h : n < 10 ^ 40) : n < many := by
  unfold many
  exact h
theorem sm_of {a : Int} (h1 : -10 ^ 4000 < a) (h2 : a < 10 ^ 4000) : Sm a := by
  refine Sm.of (n := 14000) ?_ (by decide) (by decide)
  have e : (10 : Nat) ^ 4000 ≤ 2 ^ 14000 := by decide +kernel
  have e2 : ((10 ^ 4000 : Nat) : Int) = 10 ^ 4000 := by push_cast; rfl
  generalize h3 : (10 : Nat) ^ 4000 = x at e e2
  generalize h4 : (2 : Nat) ^ 14000 = y at e ⊢
  rw [← e2] at h1 h2
  omega
theorem sm_lt {a : Int} {b : Nat} (h : a.natAbs ≤ b) (hb : b < 10 ^ 4000) : Sm a := by
  have e2 : ((10 ^ 4000 : Nat) : Int) = 10 ^ 4000 := by push_cast; rfl
  refine sm_of ?_ ?_ <;> rw [← e2] <;> generalize (10 : Nat) ^ 4000 = x at hb <;> omega
theorem dv_of {a : Int} (h0 : 0 < a) (h : a < 2 ^ 1000) : Dv a := by
  refine ⟨h0, ?_⟩
  refine PySem.Flt.log2_lt_of (by decide) (Nat.lt_trans (m := 2 ^ 1000) ?_ (by decide +kernel))
  have e2 : ((2 ^ 1000 : Nat) : Int) = 2 ^ 1000 := by push_cast; rfl
  rw [← e2] at h
  generalize (2 : Nat) ^ 1000 = x at h ⊢
  omega
end Wk
set_option Elab.async false
set_option maxRecDepth 100000
set_option maxHeartbeats 4000000
set_option linter.all false
/-! M1: what all laws need: sizes, ranges with a step, what repr takes, the pot's state -/
namespace Wk
open PySem L2
open PyProof.Rows hiding St
theorem sm_small {a : Int} (h : a.natAbs ≤ 10 ^ 30) : Sm a := sm_lt h (by decide)
theorem sm_nat {a : Nat} (h : a ≤ 10 ^ 30) : Sm (a : Int) := sm_small (by omega)
theorem sm_pow {a k : Nat} (h : a ≤ 10 ^ k) (hk : k ≤ 1000) : Sm (a : Int) := sm_lt (b := 10 ^ 1000) (by rw [Int.natAbs_natCast]; exact Nat.le_trans h (Nat.pow_le_pow_right (by decide) hk)) (by decide +kernel)
theorem dv_nat {p : Nat} (hp : 0 < p) (hq : p < 10 ^ 40) : Dv (p : Int) := by
  refine dv_of (by omega) (Int.lt_trans (b := 10 ^ 40) (by omega) (by decide))
theorem dec_nat {a b : Nat} : decide ((a : Int) = (b : Int)) = decide (a = b) := decide_eq_decide.mpr (by omega)
theorem atI_nat {α : Type} {xs : List α} {i : Nat} (h : i < xs.length) : atI xs (i : Int) = xs[i]? := by
  unfold atI ixN
  rw [if_pos (by omega), if_pos (by omega)]
  simp
theorem atI_last {α : Type} {xs : List α} {n : Nat} (h : xs.length = n + 1) : atI xs (-1) = xs[n]? := by
  unfold atI ixN
  rw [if_neg (by decide), if_pos (by omega), h]
  show xs[(-1 + ((n + 1 : Nat) : Int)).toNat]? = _
  congr 1
  omega
theorem rs_pos {a b c : Int} (hc : 0 < c) : Builtin.Range.rangeSize a b c = if a < b then (b - a - 1) / c + 1 else 0 := by
  unfold Builtin.Range.rangeSize
  rw [if_pos (by omega)]
theorem mem_rng3 {a b c x : Int} (hc : 0 < c) : x ∈ rng3 a b c ↔ ∃ k : Nat, x = a + (k : Int) * c ∧ x < b := by
  unfold rng3
  rw [rs_pos hc, List.mem_map]
  constructor
  · rintro ⟨k, hk, rfl⟩
    refine ⟨k, rfl, ?_⟩
    have hk := List.mem_range.mp hk
    by_cases h : a < b
    · rw [if_pos h] at hk
      have : (k : Int) ≤ (b - a - 1) / c := by omega
      have := (Int.le_ediv_iff_mul_le hc).mp this
      omega
    · rw [if_neg h] at hk
      simp at hk
  · rintro ⟨k, rfl, hx⟩
    have h0 : 0 ≤ (k : Int) * c := Int.mul_nonneg (by omega) (by omega)
    refine ⟨k, List.mem_range.mpr ?_, rfl⟩
    rw [if_pos (by omega)]
    have : (k : Int) ≤ (b - a - 1) / c := (Int.le_ediv_iff_mul_le hc).mpr (by omega)
    omega
theorem rg3_ok {a b c : Int} (hc : 0 < c) (hc2 : c < 1000000) (ha : 0 ≤ a) (ha2 : a < 2 ^ 60) (hb : 0 ≤ b) (hb2 : b < 2 ^ 60) : Rg3 a b c := by
  have hq : 0 ≤ (b - a - 1) / c ∨ ¬ a < b := by
    by_cases h : a < b
    · exact .inl (Int.ediv_nonneg (by omega) (by omega))
    · exact .inr h
  have hq2 : (b - a - 1) / c ≤ 2 ^ 60 ∨ ¬ a < b := by
    by_cases h : a < b
    · refine .inl (Int.le_trans (Int.ediv_le_self _ (by omega)) (by omega))
    · exact .inr h
  refine ⟨by omega, by omega, ?_, ?_⟩
  · unfold Builtin.Range.small
    rw [rs_pos hc]
    simp only [Builtin.Range.rangeFitsLong, Bool.and_eq_true, Bool.or_eq_true, decide_eq_true_eq, beq_iff_eq, show c > 0 from hc, if_true]
    generalize (b - a - 1) / c = q at *
    split <;> omega
  · rw [rs_pos hc]
    generalize (b - a - 1) / c = q at *
    split <;> omega
def Shp (D B : Nat) (d : PyData) : Prop := d.depth ≤ D ∧ wt d ≤ B
theorem shp_int {i : Int} (h : i.natAbs < 10 ^ 40) : Shp 0 50 (.int i) := ⟨by simp only [PyData.depth]; exact Nat.le_refl _, by simp only [wt]; rw [if_pos h]; exact Nat.le_refl _⟩
theorem shp_big {i : Int} (h : i.natAbs.log2 < 12900) : Shp 0 13000 (.int i) := ⟨by simp only [PyData.depth]; exact Nat.le_refl _, by
  simp only [wt]
  split
  · decide
  · exact Nat.le_refl _⟩
theorem shp_all {D B : Nat} : ∀ {l : List PyData}, (∀ x ∈ l, Shp D B x) → PyData.depthAll l ≤ D ∧ wts l ≤ l.length * (B + 2)
  | [], _ => ⟨by simp only [PyData.depthAll]; omega, by simp only [wts]; omega⟩
  | x :: l, h => by
    obtain ⟨h1, h2⟩ := h x (List.mem_cons_self ..)
    obtain ⟨h3, h4⟩ := shp_all (l := l) fun y hy => h y (List.mem_cons_of_mem _ hy)
    refine ⟨by simp only [PyData.depthAll]; omega, ?_⟩
    simp only [wts]
    rw [List.length_cons, Nat.add_mul]
    omega
theorem shp_list {D B n : Nat} {l : List PyData} (hl : l.length ≤ n) (h : ∀ x ∈ l, Shp D B x) : Shp (D + 1) (n * (B + 2) + 3) (.list l) := by
  obtain ⟨h1, h2⟩ := shp_all h
  have := Nat.mul_le_mul_right (B + 2) hl
  exact ⟨by simp only [PyData.depth]; omega, by simp only [wt]; omega⟩
theorem shp_tup {D B n : Nat} {l : List PyData} (hl : l.length ≤ n) (h : ∀ x ∈ l, Shp D B x) : Shp (D + 1) (n * (B + 2) + 3) (.tuple l) := by
  obtain ⟨h1, h2⟩ := shp_all h
  have := Nat.mul_le_mul_right (B + 2) hl
  exact ⟨by simp only [PyData.depth]; omega, by simp only [wt]; omega⟩
theorem Shp.le {D B D' B' : Nat} {d : PyData} (h : Shp D B d) (h1 : D ≤ D') (h2 : B ≤ B') : Shp D' B' d := ⟨Nat.le_trans h.1 h1, Nat.le_trans h.2 h2⟩
theorem Shp.ok {D B : Nat} {d : PyData} (h : Shp D B d) (h1 : D ≤ 50) (h2 : B ≤ 16000000) : OkD d := ⟨Nat.le_trans h.1 h1, Nat.le_trans h.2 h2⟩
theorem cut_head {α : Type} (xs : List α) (n : Nat) : cut xs none (some (n : Int)) = xs.take n := by
  unfold cut HT.sIx
  simp only [List.drop_zero, Nat.sub_zero]
  rw [if_neg (by omega), Int.toNat_natCast]
  by_cases h : n ≤ xs.length
  · rw [Nat.min_eq_left h]
  · rw [Nat.min_eq_right (by omega), List.take_of_length_le (Nat.le_refl _), List.take_of_length_le (by omega)]
theorem bits_sm {i : Int} (h : Builtin.Int.intBits i ≤ 1048576) : i.natAbs.log2 ≤ 1048576 := by
  unfold Builtin.Int.intBits at h
  split at h
  · rename_i z
    have : i = 0 := by simpa using z
    subst this; decide
  · omega
theorem abs_if (i : Int) : (if i < 0 then -i else i) = (i.natAbs : Int) := by split <;> omega
/-- a lot of values whose sizes are small -/
theorem shp_bool {b : Bool} : Shp 0 50 (.bool b) := ⟨by simp only [PyData.depth]; exact Nat.le_refl _, by simp only [wt]; decide⟩
theorem shp_none : Shp 0 50 .none := ⟨by simp only [PyData.depth]; exact Nat.le_refl _, by simp only [wt]; decide⟩
theorem Shp.l1 {D B : Nat} {a : PyData} (h : Shp D B a) : ∀ x ∈ [a], Shp D B x := fun x hx => by rw [List.mem_singleton.mp hx]; exact h
theorem Shp.lc {D B : Nat} {a : PyData} {l : List PyData} (h : Shp D B a) (t : ∀ x ∈ l, Shp D B x) : ∀ x ∈ a :: l, Shp D B x := fun x hx => by
  rcases List.mem_cons.mp hx with e | e
  · rw [e]; exact h
  · exact t x e
theorem shp_nil {D B : Nat} : ∀ x ∈ ([] : List PyData), Shp D B x := fun x hx => nomatch hx
theorem shp_map {α : Type} {D B : Nat} {f : α → PyData} {l : List α} (h : ∀ a ∈ l, Shp D B (f a)) : ∀ x ∈ l.map f, Shp D B x := fun x hx => by
  obtain ⟨a, ha, rfl⟩ := List.mem_map.mp hx
  exact h a ha
/-- the pot, b draws may follow -/
structure Pot (s : PotT) (b : Nat) : Prop where
  g : ∀ c ∈ s.great, 0 ≤ c
  l : s.great.length ≤ 100
  m0 : 0 ≤ s.mix
  m1 : s.mix < 2 ^ 40
  t0 : 0 ≤ s.turn
  t1 : s.turn + b ≤ 10 ^ 9
theorem Pot.le {s : PotT} {b c : Nat} (h : Pot s b) (hc : c ≤ b) : Pot s c := ⟨h.g, h.l, h.m0, h.m1, h.t0, by have := h.t1; omega⟩
/-- ascending lists with the same items are one -/
theorem asc_eq : ∀ {l r : List Int}, l.Pairwise (· < ·) → r.Pairwise (· < ·) → (∀ x, x ∈ l ↔ x ∈ r) → l = r
  | [], [], _, _, _ => rfl
  | [], y :: r, _, _, h => absurd ((h y).mpr (List.mem_cons_self ..)) (by simp)
  | x :: l, [], _, _, h => absurd ((h x).mp (List.mem_cons_self ..)) (by simp)
  | x :: l, y :: r, h1, h2, h => by
    have a1 := List.pairwise_cons.mp h1
    have a2 := List.pairwise_cons.mp h2
    have e : x = y := by
      rcases List.mem_cons.mp ((h x).mp (List.mem_cons_self ..)) with z | z
      · exact z
      · rcases List.mem_cons.mp ((h y).mpr (List.mem_cons_self ..)) with w | w
        · exact w.symm
        · have b1 := a2.1 x z
          have b2 := a1.1 y w
          omega
    subst e
    congr 1
    refine asc_eq a1.2 a2.2 fun z => ?_
    constructor
    · intro hz
      rcases List.mem_cons.mp ((h z).mp (List.mem_cons_of_mem _ hz)) with w | w
      · have := a1.1 z hz
        rw [w] at this; omega
      · exact w
    · intro hz
      rcases List.mem_cons.mp ((h z).mpr (List.mem_cons_of_mem _ hz)) with w | w
      · have := a2.1 z hz
        rw [w] at this; omega
      · exact w
theorem rng3_asc {a b c : Int} (hc : 0 < c) : (rng3 a b c).Pairwise (· < ·) := by
  unfold rng3
  rw [List.pairwise_map]
  refine List.Pairwise.imp ?_ List.pairwise_lt_range
  intro i j h
  have : (i : Int) * c < (j : Int) * c := Int.mul_lt_mul_of_pos_right (by omega) hc
  omega
theorem rng_asc {a b : Int} : (rng a b).Pairwise (· < ·) := by
  unfold rng
  rw [List.pairwise_map]
  refine List.Pairwise.imp ?_ List.pairwise_lt_range
  intro i j h
  omega
end Wk
set_option Elab.async false
set_option maxRecDepth 100000
set_option maxHeartbeats 4000000
set_option linter.all false
namespace Wk
open PySem L2
open PyProof.Rows hiding St
def top (i : Nat) : Stmt := PySem.Challenge.pw_divisorways_k91_whole_passes_and_orders.main.body.getD i (.Pass ⟨0, 0, 0, 0⟩)
abbrev potHd : Addr → Int → Int → HO := hdL
abbrev potPt (i : PotI) : Pt PotT := potOf potHd i
structure Tx (mg : Str → Option Value) (base : Heap) : Prop where
  nd : base.NoDigits
  n_abs : mg "abs" = none
  n_all : mg "all" = none
  n_int : mg "int" = none
  n_len : mg "len" = none
  n_max : mg "max" = none
  n_min : mg "min" = none
  n_range : mg "range" = none
  n_repr : mg "repr" = none
  n_sorted : mg "sorted" = none
  n_sum : mg "sum" = none
  n_tuple : mg "tuple" = none
  c_MAX_LISTED : ∃ t, mg "MAX_LISTED" = some (.int 500 t)
abbrev t_taken_out : Stmt := top 2
theorem sc_taken_out : FnScope ["number", "p", "often"] ["number", "p"] (defScope t_taken_out) := ⟨rfl, rfl, rfl, by decide +kernel, rfl, by decide +kernel, by decide +kernel⟩
@[irreducible] noncomputable def m_taken_out (p_number : Int) (p_p : Int) : Option (Int × Int) :=
bnd (0 : Int) fun often1 =>
(whS many (fun (st11 : Int × Int) k => Mir.lft (grd (0 < p_p)) >>= fun _ => k (decide ((st11.1 % p_p) = (0 : Int)))) (fun (st11 : Int × Int) =>
bnd (st11.2 + (1 : Int)) fun often42 =>
Mir.lft (grd (Dv p_p)) >>= fun _ => bnd (st11.1 / p_p) fun number52 =>
pure (number52, often42)) (p_number, often1)) >>= fun (st11 : Int × Int) =>
bnd (st11.2, st11.1) fun r76 => pure r76
noncomputable abbrev fm_taken_out : (Int × Int) → Option (Int × Int) := fun (a0, a1) => m_taken_out a0 a1
abbrev sp_taken_out (K : PySem.W.Frag) : Sp := spV F0 fm_taken_out (fun _ => (aCons rI (aOne rI))) (rT K (aCons rI (aOne rI)))
section
variable {P : Program} {w : World} {K : PySem.W.Frag} {mg : Str → Option Value} {base : Heap}
theorem g_taken_out (T : Tx mg base)  {f : Addr} {fd : FuncData} (F : Fun K "taken_out" "taken_out" t_taken_out f fd) : FnG P w K mg base CX0 1 f fd ["number", "p"] (sp_taken_out K) := by
  refine okG0 F sc_taken_out (fun vs H Q E h => ?_) (fun cdv A outer s0_ H0 vs Q E hr gd h => ?_)
  · obtain ⟨_, _, _, _, _, _, _, _, ⟨_, _, rfl, _, ⟨_, rfl, _⟩⟩, _⟩ := h
    rfl
  · obtain ⟨_, a, S0, s0, r, s', e0, p0, ⟨_, _, rfl, rfl, ⟨_, rfl, rfl⟩⟩, hm0, fin0⟩ := h
    obtain ⟨p_number, p_p⟩ := a
    have fin : ∀ v {H' : Hp}, (∃ S', Gm (pt0).M S0 H0 S' H' ∧ PotAt pt0 s' S' H' ∧ (rT K (aCons rI (aOne rI))) r v S') → Q v H' := fun v {H'} ⟨S', h1, h2, h3⟩ => fin0 v S' H' h1 h2 h3
    have w0 : Wd pt0 S0 H0 S0 H0 [] := Wd.start e0
    have hm0 : Mir.run (m_taken_out p_number p_p) s0 = some (r, s') := hm0
    unfold m_taken_out at hm0
    have sc := sc_taken_out
    refine ⟨_, pss_cons (ps_set (i := 2) sc.nd rfl (by first | exact Or.inl rfl | exact Or.inr rfl) (pe_int)) (pss_cons (ps_while PassesOwn.never (pt_cmpR op_eq (pe_op op_mod (pv 0) (pv 1)) (pe_int) (nomark _)) (pss_cons (ps_par (i := 2) (j := 0) rfl sc.nd rfl rfl (by decide) rfl rfl (pa_cons (pe_op op_add (pv 2) (pe_int)) (pa_cons (pe_op op_fdivW (pv 0) (pv 1)) (pa_nil))) (by rfl)) (pss_nil))) (pss_cons (ps_ret (pe_tup (pa_cons (pv 2) (pa_cons (pv 0) (pa_nil))))) (pss_nil))), ?_⟩
    refine q_set (fun v => [some (.int p_number), some (.int p_p), some v]) (fun _ => rfl) w0 p0 e_cI hm0 ?_
    intro often1 voften9 S2 H3 s4 w5 p6 g8 roften10 hm7
    cases (show voften9 = .int often1 from roften10)
    refine q_wh (p := pt0) (fun st11 σ S' H' s' => σ = [some (.int st11.1), some (.int p_p), some (.int st11.2)] ∧ Wd pt0 S0 H0 S' H' [] ∧ PotAt pt0 s' S' H' ∧ Ex S2 S') ⟨rfl, w5, p6, Ex.rf⟩ hm7 ?_ ?_ ?_ ?_
    · rintro st11 _ S17 H18 s19 ⟨rfl, w14, p15, eb16⟩
      exact ⟨p15, w14.i, (t_Test (e_eq (e_mod (e_var (R := rI) rfl rfl) (e_var (R := rI) rfl rfl)) e_cI))⟩
    · rintro st11 _ S23 H24 s25 S26 H27 s28 ⟨rfl, w20, p21, eb22⟩ g29 p30
      exact ⟨rfl, w20.go g29, p30, eb22.tr g29.s⟩
    · rintro st11 _ S34 H35 s36 st11_ s2_ D_ ⟨rfl, w31, p32, eb33⟩ hm37 nx38
      refine par_go ?_
      refine x_ev w31 p32 (e_add (e_var (R := rI) rfl rfl) e_cI) hm37 ?_
      intro often42 voften50 S43 H44 s45 w46 p47 g49 roften51 hm48
      cases (show voften50 = .int often42 from roften51)
      have eb33 := eb33.tr g49.s
      refine x_ev w46 p47 (e_fdiv (e_var (R := rI) rfl rfl) (e_var (R := rI) rfl rfl)) hm48 ?_
      intro number52 vnumber60 S53 H54 s55 w56 p57 g59 rnumber61 hm58
      cases (show vnumber60 = .int number52 from rnumber61)
      have eb33 := eb33.tr g59.s
      refine par_end [some (.int number52), some (.int p_p), some (.int often42)] rfl ?_
      cases run_of_pure hm58
      exact (nx38 _ _ _ ⟨rfl, w56, p57, eb33⟩).1
    · rintro st11 _ S65 H66 s67 ⟨rfl, w62, p63, eb64⟩ hm68
      refine q_ret w62 p63 (e_tup (K := K) (a_cons (e_var (R := rI) rfl rfl) (a_one (e_var (R := rI) rfl rfl))) (arN_cons arN_one) (by decide)) hm68 ?_
      intro r76 v77 S69 H70 s71 w72 p73 g75 rr78 hm74
      cases run_of_pure hm74
      exact fin _ ⟨S69, w72.g, p73, rr78⟩
end
abbrev t_power_left : Stmt := top 4
theorem sc_power_left : FnScope ["base", "often", "number", "found"] ["base", "often", "number"] (defScope t_power_left) := ⟨rfl, rfl, rfl, by decide +kernel, rfl, by decide +kernel, by decide +kernel⟩
@[irreducible] noncomputable def m_power_left (p_base : Int) (p_often : Int) (p_number : Int) : Option Int :=
bnd (1 : Int) fun found1 =>
Mir.lft (grd (0 < p_number)) >>= fun _ => bnd (p_base % p_number) fun base11 =>
(whS many (fun (st21 : Int × Int × Int) k => k (decide ((0 : Int) < st21.2.1))) (fun (st21 : Int × Int × Int) =>
Mir.lft (grd (0 < (2 : Int))) >>= fun _ => ((if (decide ((st21.2.1 % (2 : Int)) = (1 : Int))) = true then
(Mir.lft (grd (Sm st21.2.2 ∧ Sm st21.1)) >>= fun _ => Mir.lft (grd (0 < p_number)) >>= fun _ => bnd ((st21.2.2 * st21.1) % p_number) fun found62 =>
pure found62)
else
(pure st21.2.2)) >>= fun (st52 : Int) =>
Mir.lft (grd (Sm st21.1 ∧ Sm st21.1)) >>= fun _ => Mir.lft (grd (0 < p_number)) >>= fun _ => bnd ((st21.1 * st21.1) % p_number) fun base88 =>
Mir.lft (grd (Dv (2 : Int))) >>= fun _ => bnd (st21.2.1 / (2 : Int)) fun often98 =>
pure (base88, often98, st52))) (base11, p_often, found1)) >>= fun (st21 : Int × Int × Int) =>
bnd st21.2.2 fun r122 => pure r122
noncomputable abbrev fm_power_left : (Int × Int × Int) → Option Int := fun (a0, a1, a2) => m_power_left a0 a1 a2
abbrev sp_power_left (K : PySem.W.Frag) : Sp := spV F0 fm_power_left (fun _ => (aCons rI (aCons rI (aOne rI)))) rI
section
variable {P : Program} {w : World} {K : PySem.W.Frag} {mg : Str → Option Value} {base : Heap}
theorem g_power_left (T : Tx mg base)  {f : Addr} {fd : FuncData} (F : Fun K "power_left" "power_left" t_power_left f fd) : FnG P w K mg base CX0 1 f fd ["base", "often", "number"] (sp_power_left K) := by
  refine okG0 F sc_power_left (fun vs H Q E h => ?_) (fun cdv A outer s0_ H0 vs Q E hr gd h => ?_)
  · obtain ⟨_, _, _, _, _, _, _, _, ⟨_, _, rfl, _, ⟨_, _, rfl, _, ⟨_, rfl, _⟩⟩⟩, _⟩ := h
    rfl
  · obtain ⟨_, a, S0, s0, r, s', e0, p0, ⟨_, _, rfl, rfl, ⟨_, _, rfl, rfl, ⟨_, rfl, rfl⟩⟩⟩, hm0, fin0⟩ := h
    obtain ⟨p_base, p_often, p_number⟩ := a
    have fin : ∀ v {H' : Hp}, (∃ S', Gm (pt0).M S0 H0 S' H' ∧ PotAt pt0 s' S' H' ∧ rI r v S') → Q v H' := fun v {H'} ⟨S', h1, h2, h3⟩ => fin0 v S' H' h1 h2 h3
    have w0 : Wd pt0 S0 H0 S0 H0 [] := Wd.start e0
    have hm0 : Mir.run (m_power_left p_base p_often p_number) s0 = some (r, s') := hm0
    unfold m_power_left at hm0
    have sc := sc_power_left
    refine ⟨_, pss_cons (ps_par (i := 3) (j := 0) rfl sc.nd rfl rfl (by decide) rfl rfl (pa_cons (pe_int) (pa_cons (pe_op op_mod (pv 0) (pv 2)) (pa_nil))) (by rfl)) (pss_cons (ps_while PassesOwn.never (pt_cmpR op_gt (pv 1) (pe_int) (nomark _)) (pss_cons (ps_if (pt_cmpR op_eq (pe_op op_mod (pv 1) (pe_int)) (pe_int) (nomark _)) (pss_cons (ps_set (i := 3) sc.nd rfl (by first | exact Or.inl rfl | exact Or.inr rfl) (pe_op op_mod (pe_op op_mulX (pv 3) (pv 0)) (pv 2))) (pss_nil)) (pss_nil)) (pss_cons (ps_par (i := 0) (j := 1) rfl sc.nd rfl rfl (by decide) rfl rfl (pa_cons (pe_op op_mod (pe_op op_mulX (pv 0) (pv 0)) (pv 2)) (pa_cons (pe_op op_fdivW (pv 1) (pe_int)) (pa_nil))) (by rfl)) (pss_nil)))) (pss_cons (ps_ret (pv 3)) (pss_nil))), ?_⟩
    refine par_go ?_
    refine x_ev w0 p0 e_cI hm0 ?_
    intro found1 vfound9 S2 H3 s4 w5 p6 g8 rfound10 hm7
    cases (show vfound9 = .int found1 from rfound10)
    refine x_ev w5 p6 (e_mod (e_var (R := rI) rfl rfl) (e_var (R := rI) rfl rfl)) hm7 ?_
    intro base11 vbase19 S12 H13 s14 w15 p16 g18 rbase20 hm17
    cases (show vbase19 = .int base11 from rbase20)
    refine par_end [some (.int base11), some (.int p_often), some (.int p_number), some (.int found1)] rfl ?_
    refine q_wh (p := pt0) (fun st21 σ S' H' s' => σ = [some (.int st21.1), some (.int st21.2.1), some (.int p_number), some (.int st21.2.2)] ∧ Wd pt0 S0 H0 S' H' [] ∧ PotAt pt0 s' S' H' ∧ Ex S12 S') ⟨rfl, w15, p16, Ex.rf⟩ hm17 ?_ ?_ ?_ ?_
    · rintro st21 _ S27 H28 s29 ⟨rfl, w24, p25, eb26⟩
      exact ⟨p25, w24.i, (t_Test (e_gt (e_var (R := rI) rfl rfl) e_cI))⟩
    · rintro st21 _ S33 H34 s35 S36 H37 s38 ⟨rfl, w30, p31, eb32⟩ g39 p40
      exact ⟨rfl, w30.go g39, p40, eb32.tr g39.s⟩
    · rintro st21 _ S44 H45 s46 st21_ s2_ D_ ⟨rfl, w41, p42, eb43⟩ hm47 nx48
      refine q_ifj (p := pt0) (fun st52 σ S' H' s' => σ = [some (.int st21.1), some (.int st21.2.1), some (.int p_number), some (.int st52)] ∧ Wd pt0 S0 H0 S' H' [] ∧ PotAt pt0 s' S' H' ∧ Ex S44 S') w41 p42 (t_Test (e_eq (e_mod (e_var (R := rI) rfl rfl) e_cI) e_cI)) hm47 ?_ ?_ ?_
      · intro S53 H54 s55 st52_ s2_ D_ w56 p57 g58 hm59 nx60
        have eb43 := eb43.tr g58.s
        have eb61 := g58.s
        refine q_set (fun v => [some (.int st21.1), some (.int st21.2.1), some (.int p_number), some v]) (fun _ => rfl) w56 p57 (e_mod (e_mul (e_var (R := rI) rfl rfl) (e_var (R := rI) rfl rfl)) (e_var (R := rI) rfl rfl)) hm59 ?_
        intro found62 vfound70 S63 H64 s65 w66 p67 g69 rfound71 hm68
        cases (show vfound70 = .int found62 from rfound71)
        have eb43 := eb43.tr g69.s
        have eb61 := eb61.tr g69.s
        cases run_of_pure hm68
        exact nx60 _ _ _ ⟨rfl, w66, p67, eb61⟩
      · intro S72 H73 s74 st52_ s2_ D_ w75 p76 g77 hm78 nx79
        have eb43 := eb43.tr g77.s
        have eb80 := g77.s
        cases run_of_pure hm78
        exact nx79 _ _ _ ⟨rfl, w75, p76, eb80⟩
      · rintro st52 _ S84 H85 s86 ⟨rfl, w81, p82, eb83⟩ hm87
        have eb43 := eb43.tr eb83
        refine par_go ?_
        refine x_ev w81 p82 (e_mod (e_mul (e_var (R := rI) rfl rfl) (e_var (R := rI) rfl rfl)) (e_var (R := rI) rfl rfl)) hm87 ?_
        intro base88 vbase96 S89 H90 s91 w92 p93 g95 rbase97 hm94
        cases (show vbase96 = .int base88 from rbase97)
        have eb43 := eb43.tr g95.s
        refine x_ev w92 p93 (e_fdiv (e_var (R := rI) rfl rfl) e_cI) hm94 ?_
        intro often98 voften106 S99 H100 s101 w102 p103 g105 roften107 hm104
        cases (show voften106 = .int often98 from roften107)
        have eb43 := eb43.tr g105.s
        refine par_end [some (.int base88), some (.int often98), some (.int p_number), some (.int st52)] rfl ?_
        cases run_of_pure hm104
        exact (nx48 _ _ _ ⟨rfl, w102, p103, eb43⟩).1
    · rintro st21 _ S111 H112 s113 ⟨rfl, w108, p109, eb110⟩ hm114
      refine q_ret w108 p109 (e_var (R := rI) rfl rfl) hm114 ?_
      intro r122 v123 S115 H116 s117 w118 p119 g121 rr124 hm120
      cases run_of_pure hm120
      exact fin _ ⟨S115, w118.g, p119, rr124⟩
end
abbrev t_does_pass_1 : Stmt := top 5
theorem sc_does_pass_1 : FnScope ["number", "base", "often", "odd", "here", "step"] ["number", "base", "often", "odd"] (defScope t_does_pass_1) := ⟨rfl, rfl, rfl, by decide +kernel, rfl, by decide +kernel, by decide +kernel⟩
@[irreducible] noncomputable def m_does_pass_1 (p_number : Int) (p_base : Int) (p_often : Int) (p_odd : Int) : Option Bool :=
Mir.lft (m_power_left p_base p_odd p_number) >>= fun r130 => bnd r130 fun here1 =>
Mir.lft (grd (List.length ([(1 : Int), (p_number - (1 : Int))] : List Int) ≤ 16000000)) >>= fun _ => if (List.contains ([(1 : Int), (p_number - (1 : Int))] : List Int) here1) = true then
(bnd true fun r25 => pure r25)
else
(Mir.lft (grd (RgB (p_often - (1 : Int)))) >>= fun _ => (lpC (ρ := Bool) (rng 0 (p_often - (1 : Int))) (fun (x37 : Int) (st35 : Int) =>
Mir.lft (grd (Sm st35 ∧ Sm st35)) >>= fun _ => Mir.lft (grd (0 < p_number)) >>= fun _ => bnd ((st35 * st35) % p_number) fun here76 =>
if (decide (here76 = (p_number - (1 : Int)))) = true then
(bnd true fun r100 => pure (Ctl.ret r100))
else
(pure (Ctl.go here76))) here1) >>= fun o => aft o (fun (st35 : Int) =>
bnd false fun r125 => pure r125) (fun r128 => pure r128))
noncomputable abbrev fm_does_pass_1 : (Int × Int × Int × Int) → Option Bool := fun (a0, a1, a2, a3) => m_does_pass_1 a0 a1 a2 a3
abbrev sp_does_pass_1 (K : PySem.W.Frag) : Sp := spV F0 fm_does_pass_1 (fun _ => (aCons rI (aCons rI (aCons rI (aOne rI))))) rB
section
variable {P : Program} {w : World} {K : PySem.W.Frag} {mg : Str → Option Value} {base : Heap}
theorem g_does_pass_1 (T : Tx mg base) (D0 : Dk P w K mg base "power_left" "power_left" t_power_left 1 ["base", "often", "number"] (sp_power_left K)) {f : Addr} {fd : FuncData} (F : Fun K "does_pass" "does_pass" t_does_pass_1 f fd) : FnG P w K mg base CX0 2 f fd ["number", "base", "often", "odd"] (sp_does_pass_1 K) := by
  obtain ⟨f0, fd0, F0, m0, G0, b0⟩ := D0
  refine okG0 F sc_does_pass_1 (fun vs H Q E h => ?_) (fun cdv A outer s0_ H0 vs Q E hr gd h => ?_)
  · obtain ⟨_, _, _, _, _, _, _, _, ⟨_, _, rfl, _, ⟨_, _, rfl, _, ⟨_, _, rfl, _, ⟨_, rfl, _⟩⟩⟩⟩, _⟩ := h
    rfl
  · obtain ⟨_, a, S0, s0, r, s', e0, p0, ⟨_, _, rfl, rfl, ⟨_, _, rfl, rfl, ⟨_, _, rfl, rfl, ⟨_, rfl, rfl⟩⟩⟩⟩, hm0, fin0⟩ := h
    obtain ⟨p_number, p_base, p_often, p_odd⟩ := a
    have fin : ∀ v {H' : Hp}, (∃ S', Gm (pt0).M S0 H0 S' H' ∧ PotAt pt0 s' S' H' ∧ rB r v S') → Q v H' := fun v {H'} ⟨S', h1, h2, h3⟩ => fin0 v S' H' h1 h2 h3
    have w0 : Wd pt0 S0 H0 S0 H0 [] := Wd.start e0
    have hm0 : Mir.run (m_does_pass_1 p_number p_base p_often p_odd) s0 = some (r, s') := hm0
    unfold m_does_pass_1 at hm0
    have sc := sc_does_pass_1
    refine ⟨_, pss_cons (ps_set (i := 4) sc.nd rfl (by first | exact Or.inl rfl | exact Or.inr rfl) (pe_cG G0 (hr.mono (by decide)) gd rfl m0 F0.kp b0 pass0 (pa_cons (pv 1) (pa_cons (pv 3) (pa_cons (pv 0) (pa_nil)))))) (pss_cons (ps_if (pt_cmpR (k_in K) (pv 4) (pe_tup (pa_cons (pe_int) (pa_cons (pe_op op_sub (pv 0) (pe_int)) (pa_nil)))) (by rfl)) (pss_cons (ps_ret (pe_bl)) (pss_nil)) (pss_nil)) (pss_cons (ps_for PassesOwn.never rfl (pi_range1 rfl T.n_range (pa_cons (pe_op op_sub (pv 2) (pe_int)) pa_nil)) (pg_name (i := 5) sc.nd rfl (by first | exact Or.inl rfl | exact Or.inr rfl)) (pss_cons (ps_set (i := 4) sc.nd rfl (by first | exact Or.inl rfl | exact Or.inr rfl) (pe_op op_mod (pe_op op_mulX (pv 4) (pv 4)) (pv 0))) (pss_cons (ps_if (pt_cmpR op_eq (pv 4) (pe_op op_sub (pv 0) (pe_int)) (nomark _)) (pss_cons (ps_ret (pe_bl)) (pss_nil)) (pss_nil)) (pss_nil)))) (pss_cons (ps_ret (pe_bl)) (pss_nil)))), ?_⟩
    refine q_set (fun v => [some (.int p_number), some (.int p_base), some (.int p_often), some (.int p_odd), some v, none]) (fun _ => rfl) w0 p0 (Ev.eta (e_call (E := E0) (fm := fm_power_left) (R := rI) (a_cons (e_var (R := rI) rfl rfl) (a_cons (e_var (R := rI) rfl rfl) (a_one (e_var (R := rI) rfl rfl)))))) hm0 ?_
    intro here1 vhere9 S2 H3 s4 w5 p6 g8 rhere10 hm7
    cases (show vhere9 = .int here1 from rhere10)
    refine q_if w5 p6 (t_Test (e_inT (neg := false) (e_var (R := rI) rfl rfl) (e_tupL (K := K) (a_consL e_cI (a_consL (e_sub (e_var (R := rI) rfl rfl) e_cI) (a_nilL (R := rI))))))) hm7 ?_ ?_
    · intro S11 H12 s13 w14 p15 g16 hm17
      refine q_ret w14 p15 e_cB hm17 ?_
      intro r25 v26 S18 H19 s20 w21 p22 g24 rr27 hm23
      cases run_of_pure hm23
      exact fin _ ⟨S18, w21.g, p22, rr27⟩
    · intro S28 H29 s30 w31 p32 g33 hm34
      refine nx_done ?_
      refine q_forC (p := pt0) (ρ := Bool) w31 p32 (i_R1 (e_sub (e_var (R := rI) rfl rfl) e_cI)) (g_nm (R := rI)) hm34 (fun Sb36 st35 σ S' H' s' => Ex Sb36 S' ∧ (∃ (xstep_ : Option V), σ = [some (.int p_number), some (.int p_base), some (.int p_often), some (.int p_odd), some (.int st35), xstep_] ∧ Wd pt0 S0 H0 S' H' [] ∧ PotAt pt0 s' S' H' ∧ Ex S28 S')) (fun r v H' s' => ∃ S', Gm (pt0).M S0 H0 S' H' ∧ PotAt pt0 s' S' H' ∧ rB r v S') ?_ ?_ ?_ ?_ ?_ ?_
      · intro S38 H39 s40 w41 p42 g43
        exact ⟨Ex.rf, ⟨_, rfl, w41, p42, g43.s⟩⟩
      · rintro Sb36 st35 _ S48 H49 s50 ⟨ex51, ⟨xstep44, rfl, w45, p46, eb47⟩⟩
        exact ⟨ex51, w45.i, p46, ownOk0⟩
      · rintro Sb36 st35 _ S56 H57 s58 S59 H60 ⟨ex62, ⟨xstep52, rfl, w53, p54, eb55⟩⟩ g61
        exact ⟨ex62.tr g61.s, _, rfl, w53.go (Gm.up g61), PotAt.go p54 g61, eb55.tr g61.s⟩
      · rintro Sb36 x37 st35 _ σ75 S67 H68 s69 st35_ s2_ D_ ⟨ex74, ⟨xstep63, rfl, w64, p65, eb66⟩⟩ hp hm70 nx71 bk72 rt73
        obtain ⟨_, rfl, rfl⟩ := hp
        refine q_set (fun v => [some (.int p_number), some (.int p_base), some (.int p_often), some (.int p_odd), some v, some (.int x37)]) (fun _ => rfl) w64 p65 (e_mod (e_mul (e_var (R := rI) rfl rfl) (e_var (R := rI) rfl rfl)) (e_var (R := rI) rfl rfl)) hm70 ?_
        intro here76 vhere84 S77 H78 s79 w80 p81 g83 rhere85 hm82
        cases (show vhere84 = .int here76 from rhere85)
        have eb66 := eb66.tr g83.s
        have ex74 := ex74.tr g83.s
        refine q_if w80 p81 (t_Test (e_eq (e_var (R := rI) rfl rfl) (e_sub (e_var (R := rI) rfl rfl) e_cI))) hm82 ?_ ?_
        · intro S86 H87 s88 w89 p90 g91 hm92
          have eb66 := eb66.tr g91.s
          have ex74 := ex74.tr g91.s
          refine q_ret w89 p90 e_cB hm92 ?_
          intro r100 v101 S93 H94 s95 w96 p97 g99 rr102 hm98
          cases run_of_pure hm98
          exact rt73 _ _ _ rfl ⟨S93, w96.g, p97, rr102⟩
        · intro S103 H104 s105 w106 p107 g108 hm109
          have eb66 := eb66.tr g108.s
          have ex74 := ex74.tr g108.s
          refine nx_done ?_
          cases run_of_pure hm109
          exact (nx71 _ _ _ _ rfl ⟨ex74, ⟨_, rfl, w106, p107, eb66⟩⟩).1
      · rintro Sb36 st35 _ S114 H115 s116 ⟨_, ⟨xstep110, rfl, w111, p112, eb113⟩⟩ hm117
        have hm117 := hm117.elim id id
        refine q_ret w111 p112 e_cB hm117 ?_
        intro r125 v126 S118 H119 s120 w121 p122 g124 rr127 hm123
        cases run_of_pure hm123
        exact fin _ ⟨S118, w121.g, p122, rr127⟩
      · intro r128 v129 H' s' hr1 hm1
        cases run_of_pure hm1
        exact fin _ hr1
end
abbrev t_is_prime_number : Stmt := top 3
theorem sc_is_prime_number : FnScope ["number", "small", "p", "often", "odd"] ["number"] (defScope t_is_prime_number) := ⟨rfl, rfl, rfl, by decide +kernel, rfl, by decide +kernel, by decide +kernel⟩
@[irreducible] noncomputable def m_is_prime_number (p_number : Int) : Option Bool :=
if (decide (p_number < (2 : Int))) = true then
(bnd false fun r15 => pure r15)
else
(Mir.lft (grd (List.length ([(2 : Int), (3 : Int), (5 : Int), (7 : Int), (11 : Int), (13 : Int), (17 : Int), (19 : Int), (23 : Int), (29 : Int), (31 : Int), (37 : Int)] : List Int) ≤ 16000000)) >>= fun _ => bnd ([(2 : Int), (3 : Int), (5 : Int), (7 : Int), (11 : Int), (13 : Int), (17 : Int), (19 : Int), (23 : Int), (29 : Int), (31 : Int), (37 : Int)] : List Int) fun small25 =>
(lpC (ρ := Bool) small25 (fun (x37 : Int) (st35 : Unit) =>
Mir.lft (grd (0 < x37)) >>= fun _ => if (decide ((p_number % x37) = (0 : Int))) = true then
(bnd (decide (p_number = x37)) fun r90 => pure (Ctl.ret r90))
else
(pure (Ctl.go ()))) ()) >>= fun o => aft o (fun (st35 : Unit) =>
Mir.lft (m_taken_out (p_number - (1 : Int)) (2 : Int)) >>= fun r133 => bnd r133 fun t108 =>
Mir.lft (grd (List.length small25 ≤ 16000000)) >>= fun _ => cmp small25 (fun x117 => Mir.lft (m_does_pass_1 p_number x117 t108.1 t108.2) >>= fun r121 => pure (some r121)) >>= fun l132 => bnd (List.all l132 id) fun r129 => pure r129) (fun r134 => pure r134))
noncomputable abbrev fm_is_prime_number : (Int) → Option Bool := fun a => m_is_prime_number a
abbrev sp_is_prime_number (K : PySem.W.Frag) : Sp := spV F0 fm_is_prime_number (fun _ => (aOne rI)) rB
section
variable {P : Program} {w : World} {K : PySem.W.Frag} {mg : Str → Option Value} {base : Heap}
theorem g_is_prime_number (T : Tx mg base) (D0 : Dk P w K mg base "taken_out" "taken_out" t_taken_out 1 ["number", "p"] (sp_taken_out K)) (D1 : Dk P w K mg base "does_pass" "does_pass_numberparts" t_does_pass_1 2 ["number", "base", "often", "odd"] (sp_does_pass_1 K)) {f : Addr} {fd : FuncData} (F : Fun K "is_prime_number" "is_prime_number" t_is_prime_number f fd) : FnG P w K mg base CX0 3 f fd ["number"] (sp_is_prime_number K) := by
  obtain ⟨f0, fd0, F0, m0, G0, b0⟩ := D0
  obtain ⟨f1, fd1, F1, m1, G1, b1⟩ := D1
  refine okG0 F sc_is_prime_number (fun vs H Q E h => ?_) (fun cdv A outer s0_ H0 vs Q E hr gd h => ?_)
  · obtain ⟨_, _, _, _, _, _, _, _, ⟨_, rfl, _⟩, _⟩ := h
    rfl
  · obtain ⟨_, p_number, S0, s0, r, s', e0, p0, ⟨_, rfl, rfl⟩, hm0, fin0⟩ := h
    have fin : ∀ v {H' : Hp}, (∃ S', Gm (pt0).M S0 H0 S' H' ∧ PotAt pt0 s' S' H' ∧ rB r v S') → Q v H' := fun v {H'} ⟨S', h1, h2, h3⟩ => fin0 v S' H' h1 h2 h3
    have w0 : Wd pt0 S0 H0 S0 H0 [] := Wd.start e0
    have hm0 : Mir.run (m_is_prime_number p_number) s0 = some (r, s') := hm0
    unfold m_is_prime_number at hm0
    have sc := sc_is_prime_number
    refine ⟨_, pss_cons (ps_if (pt_cmpR op_lt (pv 0) (pe_int) (nomark _)) (pss_cons (ps_ret (pe_bl)) (pss_nil)) (pss_nil)) (pss_cons (ps_set (i := 1) sc.nd rfl (by first | exact Or.inl rfl | exact Or.inr rfl) (pe_tup (pa_cons (pe_int) (pa_cons (pe_int) (pa_cons (pe_int) (pa_cons (pe_int) (pa_cons (pe_int) (pa_cons (pe_int) (pa_cons (pe_int) (pa_cons (pe_int) (pa_cons (pe_int) (pa_cons (pe_int) (pa_cons (pe_int) (pa_cons (pe_int) (pa_nil))))))))))))))) (pss_cons (ps_for PassesOwn.never rfl (k_pit K (pv 1)) (pg_name (i := 2) sc.nd rfl (by first | exact Or.inl rfl | exact Or.inr rfl)) (pss_cons (ps_if (pt_cmpR op_eq (pe_op op_mod (pv 0) (pv 2)) (pe_int) (nomark _)) (pss_cons (ps_ret (pe_cmpR op_eq (pv 0) (pv 2) (nomark _))) (pss_nil)) (pss_nil)) (pss_nil))) (pss_cons (ps_asg (pe_cG G0 (hr.mono (by decide)) gd rfl m0 F0.kp b0 pass0 (pa_cons (pe_op op_sub (pv 0) (pe_int)) (pa_cons (pe_int) (pa_nil)))) (k_gt K (pgs_cons (pg_name (i := 3) sc.nd rfl (by first | exact Or.inl rfl | exact Or.inr rfl)) (pgs_cons (pg_name (i := 4) sc.nd rfl (by first | exact Or.inl rfl | exact Or.inr rfl)) (pgs_nil))))) (pss_cons (ps_ret (pe_callB (k_all K) (by rfl) T.n_all (by decide +kernel) (pa_cons (pe_lc (own := [("p", 2)]) (g := (gName 2)) (tt := tYes) rfl sc.nd (k_pit K (pv 1)) (blkOk_by (N := ["number", "small", "p", "often", "odd"]) (sc := defScope t_is_prime_number) (by decide +kernel)) (fun _ _ _ _ _ => pg_name (i := 2) sc.nd rfl (by first | exact Or.inl rfl | exact Or.inr rfl)) (fun _ _ _ _ _ => pts_nil) (fun _ _ _ _ _ => pe_cG G1 (hr.mono (by decide)) gd rfl m1 F1.kp b1 pass0 (pa_cons (pv 0) (pa_cons (pv 2) (pa_cons (pv 3) (pa_cons (pv 4) (pa_nil))))))) pa_nil))) (pss_nil))))), ?_⟩
    refine q_if w0 p0 (t_Test (e_lt (e_var (R := rI) rfl rfl) e_cI)) hm0 ?_ ?_
    · intro S1 H2 s3 w4 p5 g6 hm7
      refine q_ret w4 p5 e_cB hm7 ?_
      intro r15 v16 S8 H9 s10 w11 p12 g14 rr17 hm13
      cases run_of_pure hm13
      exact fin _ ⟨S8, w11.g, p12, rr17⟩
    · intro S18 H19 s20 w21 p22 g23 hm24
      refine nx_done ?_
      refine q_set (fun v => [some (.int p_number), some v, none, none, none]) (fun _ => rfl) w21 p22 (e_tupL (K := K) (a_consL e_cI (a_consL e_cI (a_consL e_cI (a_consL e_cI (a_consL e_cI (a_consL e_cI (a_consL e_cI (a_consL e_cI (a_consL e_cI (a_consL e_cI (a_consL e_cI (a_consL e_cI (a_nilL (R := rI))))))))))))))) hm24 ?_
      intro small25 vsmall33 S26 H27 s28 w29 p30 g32 rsmall34 hm31
      refine q_forC (p := pt0) (ρ := Bool) w29 p30 (i_T (e_var rfl rsmall34)) (g_nm (R := rI)) hm31 (fun Sb36 st35 σ S' H' s' => Ex Sb36 S' ∧ (∃ (xp_ : Option V), σ = [some (.int p_number), some vsmall33, xp_, none, none] ∧ Wd pt0 S0 H0 S' H' [] ∧ PotAt pt0 s' S' H' ∧ Ex S26 S')) (fun r v H' s' => ∃ S', Gm (pt0).M S0 H0 S' H' ∧ PotAt pt0 s' S' H' ∧ rB r v S') ?_ ?_ ?_ ?_ ?_ ?_
      · intro S38 H39 s40 w41 p42 g43
        have rsmall34 := Mo.mo g43.s rsmall34
        exact ⟨Ex.rf, ⟨_, rfl, w41, p42, g43.s⟩⟩
      · rintro Sb36 st35 _ S48 H49 s50 ⟨ex51, ⟨xp44, rfl, w45, p46, eb47⟩⟩
        exact ⟨ex51, w45.i, p46, ownOk0⟩
      · rintro Sb36 st35 _ S56 H57 s58 S59 H60 ⟨ex62, ⟨xp52, rfl, w53, p54, eb55⟩⟩ g61
        exact ⟨ex62.tr g61.s, _, rfl, w53.go (Gm.up g61), PotAt.go p54 g61, eb55.tr g61.s⟩
      · rintro Sb36 x37 st35 _ σ75 S67 H68 s69 st35_ s2_ D_ ⟨ex74, ⟨xp63, rfl, w64, p65, eb66⟩⟩ hp hm70 nx71 bk72 rt73
        obtain ⟨_, rfl, rfl⟩ := hp
        have rsmall34 := Mo.mo eb66 rsmall34
        refine q_if w64 p65 (t_Test (e_eq (e_mod (e_var (R := rI) rfl rfl) (e_var (R := rI) rfl rfl)) e_cI)) hm70 ?_ ?_
        · intro S76 H77 s78 w79 p80 g81 hm82
          have rsmall34 := Mo.mo g81.s rsmall34
          have eb66 := eb66.tr g81.s
          have ex74 := ex74.tr g81.s
          refine q_ret w79 p80 (e_eq (e_var (R := rI) rfl rfl) (e_var (R := rI) rfl rfl)) hm82 ?_
          intro r90 v91 S83 H84 s85 w86 p87 g89 rr92 hm88
          cases run_of_pure hm88
          exact rt73 _ _ _ rfl ⟨S83, w86.g, p87, rr92⟩
        · intro S93 H94 s95 w96 p97 g98 hm99
          have rsmall34 := Mo.mo g98.s rsmall34
          have eb66 := eb66.tr g98.s
          have ex74 := ex74.tr g98.s
          refine nx_done ?_
          cases run_of_pure hm99
          exact (nx71 _ _ _ _ rfl ⟨ex74, ⟨_, rfl, w96, p97, eb66⟩⟩).1
      · rintro Sb36 st35 _ S104 H105 s106 ⟨_, ⟨xp100, rfl, w101, p102, eb103⟩⟩ hm107
        have hm107 := hm107.elim id id
        have rsmall34 := Mo.mo eb103 rsmall34
        refine q_unp w101 p102 (Ev.eta (e_call (E := E0) (fm := fm_taken_out) (R := (rT K (aCons rI (aOne rI)))) (a_cons (e_sub (e_var (R := rI) rfl rfl) e_cI) (a_one e_cI)))) (g_tp (gq_cons (g_nm (R := rI)) (gq_one (g_nm (R := rI))))) hm107 ?_
        intro t108 σ116 S109 H110 s111 w112 p113 g115 hp hm114
        have rsmall34 := Mo.mo g115.s rsmall34
        obtain ⟨_, ⟨_, rfl, rfl⟩, ⟨_, rfl, rfl⟩⟩ := hp
        refine q_ret w112 p113 (c_all (EvL.rd (l_lc1 (γ := Bool) (vs := [2]) (me := fun x117 k => Mir.lft (m_does_pass_1 p_number x117 t108.1 t108.2) >>= fun r120 => k r120) (R' := rB) (i_T (e_var rfl rsmall34)) ownOk0 (g_nm (R := rI)) (fun x σ' S hp => by obtain ⟨_, rfl, _⟩ := hp; rfl) (fun x117 σ' S1 H1 g118 hp => by have w119 := w112.go g118; obtain ⟨_, rfl, rfl⟩ := hp; have rsmall34 := Mo.mo g118.s rsmall34; exact (Ev.eta (e_call (E := E0) (fm := fm_does_pass_1) (R := rB) (a_cons (e_var (R := rI) rfl rfl) (a_cons (e_var (R := rI) rfl rfl) (a_cons (e_var (R := rI) rfl rfl) (a_one (e_var (R := rI) rfl rfl)))))))) pm_nm))) hm114 ?_
        intro r129 v130 S122 H123 s124 w125 p126 g128 rr131 hm127
        cases run_of_pure hm127
        exact fin _ ⟨S122, w125.g, p126, rr131⟩
      · intro r134 v135 H' s' hr1 hm1
        cases run_of_pure hm1
        exact fin _ hr1
end
abbrev t_primes_of : Stmt := top 7
theorem sc_primes_of : FnScope ["number", "found", "p", "often"] ["number"] (defScope t_primes_of) := ⟨rfl, rfl, rfl, by decide +kernel, rfl, by decide +kernel, by decide +kernel⟩
@[irreducible] noncomputable def m_primes_of (p_number : Int) : Option (List (Int × Int)) :=
Mir.lft (grd (List.length ([] : List (Int × Int)) ≤ 16000000)) >>= fun _ => bnd ([] : List (Int × Int)) fun found1 =>
bnd (2 : Int) fun p12 =>
(whC many (fun (st22 : Int × (List (Int × Int)) × Int) k => Mir.lft (grd (Sm st22.2.2 ∧ Sm st22.2.2)) >>= fun _ => k (decide ((st22.2.2 * st22.2.2) ≤ st22.1))) (fun (st22 : Int × (List (Int × Int)) × Int) =>
Mir.lft (grd (0 < st22.2.2)) >>= fun _ => if (decide ((st22.1 % st22.2.2) = (0 : Int))) = true then
(Mir.lft (m_taken_out st22.1 st22.2.2) >>= fun r134 => bnd r134 fun t72 =>
Mir.lft (grd (List.length st22.2.1 < 16000000)) >>= fun _ => bnd (st22.2.1 ++ [(st22.2.2, t72.1)]) fun found81 =>
Mir.lft (m_is_prime_number t72.2) >>= fun r133 => if r133 = true then
(pure (Ctl.brk (t72.2, found81, st22.2.2)))
else
((if (decide (st22.2.2 = (1009 : Int))) = true then Mir.lft (m_is_prime_number t72.2) >>= fun r132 => pure r132 else pure false) >>= fun b131 => if b131 = true then
(pure (Ctl.brk (t72.2, found81, st22.2.2)))
else
((if (decide (st22.2.2 = (2 : Int))) = true then pure (1 : Int) else (if (decide (st22.2.2 = (3 : Int))) = true then pure true else Mir.lft (grd (0 < (6 : Int))) >>= fun _ => pure (decide ((st22.2.2 % (6 : Int)) = (5 : Int)))) >>= fun b130 => pure (if b130 = true then (2 : Int) else (4 : Int))) >>= fun c129 => bnd (st22.2.2 + c129) fun p119 =>
pure (Ctl.go (t72.2, found81, p119)))))
else
((if (decide (st22.2.2 = (1009 : Int))) = true then Mir.lft (m_is_prime_number st22.1) >>= fun r169 => pure r169 else pure false) >>= fun b168 => if b168 = true then
(pure (Ctl.brk (st22.1, st22.2.1, st22.2.2)))
else
((if (decide (st22.2.2 = (2 : Int))) = true then pure (1 : Int) else (if (decide (st22.2.2 = (3 : Int))) = true then pure true else Mir.lft (grd (0 < (6 : Int))) >>= fun _ => pure (decide ((st22.2.2 % (6 : Int)) = (5 : Int)))) >>= fun b167 => pure (if b167 = true then (2 : Int) else (4 : Int))) >>= fun c166 => bnd (st22.2.2 + c166) fun p156 =>
pure (Ctl.go (st22.1, st22.2.1, p156))))) (p_number, found1, p12)) >>= fun o => aft o (fun (st22 : Int × (List (Int × Int)) × Int) =>
(if (decide ((1 : Int) < st22.1)) = true then Mir.lft (grd (List.length ([(st22.1, (1 : Int))] : List (Int × Int)) ≤ 16000000)) >>= fun _ => pure ([(st22.1, (1 : Int))] : List (Int × Int)) else Mir.lft (grd (List.length ([] : List (Int × Int)) ≤ 16000000)) >>= fun _ => pure ([] : List (Int × Int))) >>= fun c191 => Mir.lft (grd (List.length st22.2.1 + List.length c191 ≤ 16000000)) >>= fun _ => bnd (st22.2.1 ++ c191) fun r188 => pure r188) (fun r192 => Empty.elim r192)
noncomputable abbrev fm_primes_of : (Int) → Option (List (Int × Int)) := fun a => m_primes_of a
abbrev sp_primes_of (K : PySem.W.Frag) : Sp := spV F0 fm_primes_of (fun _ => (aOne rI)) (rT K (aAll (rT K (aCons rI (aOne rI)))))
section
variable {P : Program} {w : World} {K : PySem.W.Frag} {mg : Str → Option Value} {base : Heap}
theorem g_primes_of (T : Tx mg base) (D0 : Dk P w K mg base "taken_out" "taken_out" t_taken_out 1 ["number", "p"] (sp_taken_out K)) (D1 : Dk P w K mg base "is_prime_number" "is_prime_number" t_is_prime_number 3 ["number"] (sp_is_prime_number K)) {f : Addr} {fd : FuncData} (F : Fun K "primes_of" "primes_of" t_primes_of f fd) : FnG P w K mg base CX0 4 f fd ["number"] (sp_primes_of K) := by
  obtain ⟨f0, fd0, F0, m0, G0, b0⟩ := D0
  obtain ⟨f1, fd1, F1, m1, G1, b1⟩ := D1
  refine okG0 F sc_primes_of (fun vs H Q E h => ?_) (fun cdv A outer s0_ H0 vs Q E hr gd h => ?_)
  · obtain ⟨_, _, _, _, _, _, _, _, ⟨_, rfl, _⟩, _⟩ := h
    rfl
  · obtain ⟨_, p_number, S0, s0, r, s', e0, p0, ⟨_, rfl, rfl⟩, hm0, fin0⟩ := h
    have fin : ∀ v {H' : Hp}, (∃ S', Gm (pt0).M S0 H0 S' H' ∧ PotAt pt0 s' S' H' ∧ (rT K (aAll (rT K (aCons rI (aOne rI))))) r v S') → Q v H' := fun v {H'} ⟨S', h1, h2, h3⟩ => fin0 v S' H' h1 h2 h3
    have w0 : Wd pt0 S0 H0 S0 H0 [] := Wd.start e0
    have hm0 : Mir.run (m_primes_of p_number) s0 = some (r, s') := hm0
    unfold m_primes_of at hm0
    have sc := sc_primes_of
    refine ⟨_, pss_cons (ps_par (i := 1) (j := 2) rfl sc.nd rfl rfl (by decide) rfl rfl (pa_cons (pe_lst (pa_nil)) (pa_cons (pe_int) (pa_nil))) (by rfl)) (pss_cons (ps_while PassesOwn.never (pt_cmpR op_le (pe_op op_mulX (pv 2) (pv 2)) (pv 0) (nomark _)) (pss_cons (ps_if (pt_cmpR op_eq (pe_op op_mod (pv 0) (pv 2)) (pe_int) (nomark _)) (pss_cons (ps_asg (pe_cG G0 (hr.mono (by decide)) gd rfl m0 F0.kp b0 pass0 (pa_cons (pv 0) (pa_cons (pv 2) (pa_nil)))) (k_gt K (pgs_cons (pg_name (i := 3) sc.nd rfl (by first | exact Or.inl rfl | exact Or.inr rfl)) (pgs_cons (pg_name (i := 0) sc.nd rfl (by first | exact Or.inl rfl | exact Or.inr rfl)) (pgs_nil))))) (pss_cons (ps_expr (pe_bm PySem.F.plainAttrs_list PySem.F.slot_list_append PySem.F.type_list_append mt_append (pv 1) (pa_cons (pe_tup (pa_cons (pv 2) (pa_cons (pv 3) (pa_nil)))) pa_nil))) (pss_cons (ps_if (pt_val (pe_cG G1 (hr.mono (by decide)) gd rfl m1 F1.kp b1 pass0 (pa_cons (pv 0) (pa_nil)))) (pss_cons (ps_break) (pss_nil)) (pss_nil)) (pss_nil)))) (pss_nil)) (pss_cons (ps_if (PW.pt (pw_and (pt_cmpR op_eq (pv 2) (pe_int) (nomark _)) (pw_and1 (pt_val (pe_cG G1 (hr.mono (by decide)) gd rfl m1 F1.kp b1 pass0 (pa_cons (pv 0) (pa_nil))))))) (pss_cons (ps_break) (pss_nil)) (pss_nil)) (pss_cons (ps_set (i := 2) sc.nd rfl (by first | exact Or.inl rfl | exact Or.inr rfl) (pe_op op_add (pv 2) (pe_ifExp (pt_cmpR op_eq (pv 2) (pe_int) (nomark _)) (pe_int) (pe_ifExp (PW.pt (pw_or (pt_cmpR op_eq (pv 2) (pe_int) (nomark _)) (pw_or1 (pt_cmpR op_eq (pe_op op_mod (pv 2) (pe_int)) (pe_int) (nomark _))))) (pe_int) (pe_int))))) (pss_nil))))) (pss_cons (ps_ret (pe_callTy (k_tupOf K) (by rfl) T.n_tuple (by decide +kernel) (pa_cons (pe_op op_cat (pv 1) (pe_ifExp (pt_cmpR op_gt (pv 0) (pe_int) (nomark _)) (pe_lst (pa_cons (pe_tup (pa_cons (pv 0) (pa_cons (pe_int) (pa_nil)))) (pa_nil))) (pe_lst (pa_nil)))) pa_nil))) (pss_nil))), ?_⟩
    refine par_go ?_
    refine x_evL w0 p0 (l_lstL (a_nilL (R := (rT K (aCons rI (aOne rI)))))) hm0 ?_
    intro found1 q9 vs10 S2 H3 s4 w5 p6 g8 rfound11 hm7
    have rfound11 : All (rT K (aCons rI (aOne rI))) _ _ _ := rfound11
    refine x_ev w5 p6 e_cI hm7 ?_
    intro p12 vp20 S13 H14 s15 w16 p17 g19 rp21 hm18
    cases (show vp20 = .int p12 from rp21)
    have rfound11 := All.mo g19.s rfound11
    refine par_end [some (.int p_number), some (.ref q9), some (.int p12), none] rfl ?_
    refine q_whC (p := pt0) (ρ := Empty) (fun st22 σ S' H' s' => ∃ (qfound_ : Addr) (usfound_ : List V) (xoften_ : Option V), σ = [some (.int st22.1), some (.ref qfound_), some (.int st22.2.2), xoften_] ∧ Wd pt0 S0 H0 S' H' [(qfound_, .lst usfound_)] ∧ PotAt pt0 s' S' H' ∧ Ex S13 S' ∧ All (rT K (aCons rI (aOne rI))) S' st22.2.1 usfound_) (fun _ _ _ _ => False) ⟨_, _, _, rfl, w16, p17, Ex.rf, rfound11⟩ hm18 ?_ ?_ ?_ ?_ ?_
    · rintro st22 _ S32 H33 s34 ⟨qfound25, usfound26, xoften27, rfl, w29, p30, eb31, rfound28⟩
      exact ⟨p30, w29.i, (t_Test (e_le (e_mul (e_var (R := rI) rfl rfl) (e_var (R := rI) rfl rfl)) (e_var (R := rI) rfl rfl)))⟩
    · rintro st22 _ S42 H43 s44 S45 H46 s47 ⟨qfound35, usfound36, xoften37, rfl, w39, p40, eb41, rfound38⟩ g48 p49
      exact ⟨_, _, _, rfl, w39.go g48, p49, eb41.tr g48.s, All.mo g48.s rfound38⟩
    · rintro st22 _ S57 H58 s59 st22_ s2_ D_ ⟨qfound50, usfound51, xoften52, rfl, w54, p55, eb56, rfound53⟩ hm60 nx61 bk62 rt63
      refine q_if w54 p55 (t_Test (e_eq (e_mod (e_var (R := rI) rfl rfl) (e_var (R := rI) rfl rfl)) e_cI)) hm60 ?_ ?_
      · intro S65 H66 s67 w68 p69 g70 hm71
        have rfound53 := All.mo g70.s rfound53
        have eb56 := eb56.tr g70.s
        refine q_unp w68 p69 (Ev.eta (e_call (E := E0) (fm := fm_taken_out) (R := (rT K (aCons rI (aOne rI)))) (a_cons (e_var (R := rI) rfl rfl) (a_one (e_var (R := rI) rfl rfl))))) (g_tp (gq_cons (g_nm (R := rI)) (gq_one (g_nm (R := rI))))) hm71 ?_
        intro t72 σ80 S73 H74 s75 w76 p77 g79 hp hm78
        have rfound53 := All.mo g79.s rfound53
        have eb56 := eb56.tr g79.s
        obtain ⟨_, ⟨_, rfl, rfl⟩, ⟨_, rfl, rfl⟩⟩ := hp
        refine q_app (j := 0) w76 p77 rfl rfl rfound53 (e_tup (K := K) (a_cons (e_var (R := rI) rfl rfl) (a_one (e_var (R := rI) rfl rfl))) (arN_cons arN_one) (by decide)) hm78 ?_
        intro found81 vs82 S84 H85 s86 w87 p88 e90 rfound83 hm89
        have eb56 := eb56.tr e90
        refine q_if w87 p88 (t_B (Ev.eta (e_call (E := E0) (fm := fm_is_prime_number) (R := rB) (a_one (e_var (R := rI) rfl rfl))))) hm89 ?_ ?_
        · intro S91 H92 s93 w94 p95 g96 hm97
          have rfound83 := All.mo g96.s rfound83
          have eb56 := eb56.tr g96.s
          cases run_of_pure hm97
          exact bk62 _ _ _ _ rfl ⟨_, _, _, rfl, w94, p95, eb56, rfound83⟩
        · intro S98 H99 s100 w101 p102 g103 hm104
          have rfound83 := All.mo g103.s rfound83
          have eb56 := eb56.tr g103.s
          refine nx_done ?_
          refine nx_done ?_
          refine q_if w101 p102 (t_and (t_Test (e_eq (e_var (R := rI) rfl rfl) e_cI)) (t_B (Ev.eta (e_call (E := E0) (fm := fm_is_prime_number) (R := rB) (a_one (e_var (R := rI) rfl rfl)))))) hm104 ?_ ?_
          · intro S105 H106 s107 w108 p109 g110 hm111
            have rfound83 := All.mo g110.s rfound83
            have eb56 := eb56.tr g110.s
            cases run_of_pure hm111
            exact bk62 _ _ _ _ rfl ⟨_, _, _, rfl, w108, p109, eb56, rfound83⟩
          · intro S112 H113 s114 w115 p116 g117 hm118
            have rfound83 := All.mo g117.s rfound83
            have eb56 := eb56.tr g117.s
            refine nx_done ?_
            refine q_set (fun v => [some (.int t72.2), some (.ref qfound50), some v, some (.int t72.1)]) (fun _ => rfl) w115 p116 (e_add (e_var (R := rI) rfl rfl) (e_if (R := rI) (t_Test (e_eq (e_var (R := rI) rfl rfl) e_cI)) e_cI (e_ifT (R := rI) (t_or (t_Test (e_eq (e_var (R := rI) rfl rfl) e_cI)) (t_Test (e_eq (e_mod (e_var (R := rI) rfl rfl) e_cI) e_cI))) e_cI e_cI))) hm118 ?_
            intro p119 vp127 S120 H121 s122 w123 p124 g126 rp128 hm125
            cases (show vp127 = .int p119 from rp128)
            have rfound83 := All.mo g126.s rfound83
            have eb56 := eb56.tr g126.s
            cases run_of_pure hm125
            exact (nx61 _ _ _ _ rfl ⟨_, _, _, rfl, w123, p124, eb56, rfound83⟩).1
      · intro S135 H136 s137 w138 p139 g140 hm141
        have rfound53 := All.mo g140.s rfound53
        have eb56 := eb56.tr g140.s
        refine nx_done ?_
        refine q_if w138 p139 (t_and (t_Test (e_eq (e_var (R := rI) rfl rfl) e_cI)) (t_B (Ev.eta (e_call (E := E0) (fm := fm_is_prime_number) (R := rB) (a_one (e_var (R := rI) rfl rfl)))))) hm141 ?_ ?_
        · intro S142 H143 s144 w145 p146 g147 hm148
          have rfound53 := All.mo g147.s rfound53
          have eb56 := eb56.tr g147.s
          cases run_of_pure hm148
          exact bk62 _ _ _ _ rfl ⟨_, _, _, rfl, w145, p146, eb56, rfound53⟩
        · intro S149 H150 s151 w152 p153 g154 hm155
          have rfound53 := All.mo g154.s rfound53
          have eb56 := eb56.tr g154.s
          refine nx_done ?_
          refine q_set (fun v => [some (.int st22.1), some (.ref qfound50), some v, xoften52]) (fun _ => rfl) w152 p153 (e_add (e_var (R := rI) rfl rfl) (e_if (R := rI) (t_Test (e_eq (e_var (R := rI) rfl rfl) e_cI)) e_cI (e_ifT (R := rI) (t_or (t_Test (e_eq (e_var (R := rI) rfl rfl) e_cI)) (t_Test (e_eq (e_mod (e_var (R := rI) rfl rfl) e_cI) e_cI))) e_cI e_cI))) hm155 ?_
          intro p156 vp164 S157 H158 s159 w160 p161 g163 rp165 hm162
          cases (show vp164 = .int p156 from rp165)
          have rfound53 := All.mo g163.s rfound53
          have eb56 := eb56.tr g163.s
          cases run_of_pure hm162
          exact (nx61 _ _ _ _ rfl ⟨_, _, _, rfl, w160, p161, eb56, rfound53⟩).1
    · rintro st22 _ S177 H178 s179 ⟨qfound170, usfound171, xoften172, rfl, w174, p175, eb176, rfound173⟩ hm180
      have hm180 := hm180.elim id id
      refine q_ret w174 p175 (c_tup (K := K) (EvL.rd (l_cat (w_own (A := (aAll (rT K (aCons rI (aOne rI))))) (j := 0) w174 rfl rfl rfound173) (EvL.rd (l_if (α := (List (Int × Int))) (t_Test (e_gt (e_var (R := rI) rfl rfl) e_cI)) (l_lstL (a_consL (e_tup (K := K) (a_cons (e_var (R := rI) rfl rfl) (a_one e_cI)) (arN_cons arN_one) (by decide)) (a_nilL (R := (rT K (aCons rI (aOne rI))))))) (l_lstL (a_nilL (R := (rT K (aCons rI (aOne rI))))))))))) hm180 ?_
      intro r188 v189 S181 H182 s183 w184 p185 g187 rr190 hm186
      cases run_of_pure hm186
      exact fin _ ⟨S181, w184.g, p185, rr190⟩
    · intro r192 v193 H' s' hr1
      exact hr1.elim
end
abbrev t_common_divisor : Stmt := top 9
theorem sc_common_divisor : FnScope ["one", "other"] ["one", "other"] (defScope t_common_divisor) := ⟨rfl, rfl, rfl, by decide +kernel, rfl, by decide +kernel, by decide +kernel⟩
@[irreducible] noncomputable def m_common_divisor (p_one : Int) (p_other : Int) : Option Int :=
(whS many (fun (st1 : Int × Int) k => k (decide ((0 : Int) < st1.2))) (fun (st1 : Int × Int) =>
bnd st1.2 fun one32 =>
Mir.lft (grd (0 < st1.2)) >>= fun _ => bnd (st1.1 % st1.2) fun other42 =>
pure (one32, other42)) (p_one, p_other)) >>= fun (st1 : Int × Int) =>
bnd st1.1 fun r66 => pure r66
noncomputable abbrev fm_common_divisor : (Int × Int) → Option Int := fun (a0, a1) => m_common_divisor a0 a1
abbrev sp_common_divisor (K : PySem.W.Frag) : Sp := spV F0 fm_common_divisor (fun _ => (aCons rI (aOne rI))) rI
section
variable {P : Program} {w : World} {K : PySem.W.Frag} {mg : Str → Option Value} {base : Heap}
theorem g_common_divisor (T : Tx mg base)  {f : Addr} {fd : FuncData} (F : Fun K "common_divisor" "common_divisor" t_common_divisor f fd) : FnG P w K mg base CX0 1 f fd ["one", "other"] (sp_common_divisor K) := by
  refine okG0 F sc_common_divisor (fun vs H Q E h => ?_) (fun cdv A outer s0_ H0 vs Q E hr gd h => ?_)
  · obtain ⟨_, _, _, _, _, _, _, _, ⟨_, _, rfl, _, ⟨_, rfl, _⟩⟩, _⟩ := h
    rfl
  · obtain ⟨_, a, S0, s0, r, s', e0, p0, ⟨_, _, rfl, rfl, ⟨_, rfl, rfl⟩⟩, hm0, fin0⟩ := h
    obtain ⟨p_one, p_other⟩ := a
    have fin : ∀ v {H' : Hp}, (∃ S', Gm (pt0).M S0 H0 S' H' ∧ PotAt pt0 s' S' H' ∧ rI r v S') → Q v H' := fun v {H'} ⟨S', h1, h2, h3⟩ => fin0 v S' H' h1 h2 h3
    have w0 : Wd pt0 S0 H0 S0 H0 [] := Wd.start e0
    have hm0 : Mir.run (m_common_divisor p_one p_other) s0 = some (r, s') := hm0
    unfold m_common_divisor at hm0
    have sc := sc_common_divisor
    refine ⟨_, pss_cons (ps_while PassesOwn.never (pt_cmpR op_gt (pv 1) (pe_int) (nomark _)) (pss_cons (ps_par (i := 0) (j := 1) rfl sc.nd rfl rfl (by decide) rfl rfl (pa_cons (pv 1) (pa_cons (pe_op op_mod (pv 0) (pv 1)) (pa_nil))) (by rfl)) (pss_nil))) (pss_cons (ps_ret (pv 0)) (pss_nil)), ?_⟩
    refine q_wh (p := pt0) (fun st1 σ S' H' s' => σ = [some (.int st1.1), some (.int st1.2)] ∧ Wd pt0 S0 H0 S' H' [] ∧ PotAt pt0 s' S' H' ∧ Ex S0 S') ⟨rfl, w0, p0, Ex.rf⟩ hm0 ?_ ?_ ?_ ?_
    · rintro st1 _ S7 H8 s9 ⟨rfl, w4, p5, eb6⟩
      exact ⟨p5, w4.i, (t_Test (e_gt (e_var (R := rI) rfl rfl) e_cI))⟩
    · rintro st1 _ S13 H14 s15 S16 H17 s18 ⟨rfl, w10, p11, eb12⟩ g19 p20
      exact ⟨rfl, w10.go g19, p20, eb12.tr g19.s⟩
    · rintro st1 _ S24 H25 s26 st1_ s2_ D_ ⟨rfl, w21, p22, eb23⟩ hm27 nx28
      refine par_go ?_
      refine x_ev w21 p22 (e_var (R := rI) rfl rfl) hm27 ?_
      intro one32 vone40 S33 H34 s35 w36 p37 g39 rone41 hm38
      cases (show vone40 = .int one32 from rone41)
      have eb23 := eb23.tr g39.s
      refine x_ev w36 p37 (e_mod (e_var (R := rI) rfl rfl) (e_var (R := rI) rfl rfl)) hm38 ?_
      intro other42 vother50 S43 H44 s45 w46 p47 g49 rother51 hm48
      cases (show vother50 = .int other42 from rother51)
      have eb23 := eb23.tr g49.s
      refine par_end [some (.int one32), some (.int other42)] rfl ?_
      cases run_of_pure hm48
      exact (nx28 _ _ _ ⟨rfl, w46, p47, eb23⟩).1
    · rintro st1 _ S55 H56 s57 ⟨rfl, w52, p53, eb54⟩ hm58
      refine q_ret w52 p53 (e_var (R := rI) rfl rfl) hm58 ?_
      intro r66 v67 S59 H60 s61 w62 p63 g65 rr68 hm64
      cases run_of_pure hm64
      exact fin _ ⟨S59, w62.g, p63, rr68⟩
end
abbrev t_power_rest : Stmt := top 11
theorem sc_power_rest : FnScope ["number", "e", "n", "found", "here"] ["number", "e", "n"] (defScope t_power_rest) := ⟨rfl, rfl, rfl, by decide +kernel, rfl, by decide +kernel, by decide +kernel⟩
@[irreducible] noncomputable def m_power_rest (p_number : Int) (p_e : Int) (p_n : Int) : Option Int :=
Mir.lft (grd (0 < p_n)) >>= fun _ => bnd ((1 : Int) % p_n) fun found1 =>
Mir.lft (grd (0 < p_n)) >>= fun _ => bnd (p_number % p_n) fun here11 =>
(whS many (fun (st21 : Int × Int × Int) k => k (decide ((0 : Int) < st21.1))) (fun (st21 : Int × Int × Int) =>
Mir.lft (grd (0 < (2 : Int))) >>= fun _ => ((if (decide ((st21.1 % (2 : Int)) = (1 : Int))) = true then
(Mir.lft (grd (Sm st21.2.1 ∧ Sm st21.2.2)) >>= fun _ => Mir.lft (grd (0 < p_n)) >>= fun _ => bnd ((st21.2.1 * st21.2.2) % p_n) fun found62 =>
pure found62)
else
(pure st21.2.1)) >>= fun (st52 : Int) =>
Mir.lft (grd (Sm st21.2.2 ∧ Sm st21.2.2)) >>= fun _ => Mir.lft (grd (0 < p_n)) >>= fun _ => bnd ((st21.2.2 * st21.2.2) % p_n) fun here88 =>
Mir.lft (grd (Dv (2 : Int))) >>= fun _ => bnd (st21.1 / (2 : Int)) fun e98 =>
pure (e98, st52, here88))) (p_e, found1, here11)) >>= fun (st21 : Int × Int × Int) =>
bnd st21.2.1 fun r122 => pure r122
noncomputable abbrev fm_power_rest : (Int × Int × Int) → Option Int := fun (a0, a1, a2) => m_power_rest a0 a1 a2
abbrev sp_power_rest (K : PySem.W.Frag) : Sp := spV F0 fm_power_rest (fun _ => (aCons rI (aCons rI (aOne rI)))) rI
section
variable {P : Program} {w : World} {K : PySem.W.Frag} {mg : Str → Option Value} {base : Heap}
theorem g_power_rest (T : Tx mg base)  {f : Addr} {fd : FuncData} (F : Fun K "power_rest" "power_rest" t_power_rest f fd) : FnG P w K mg base CX0 1 f fd ["number", "e", "n"] (sp_power_rest K) := by
  refine okG0 F sc_power_rest (fun vs H Q E h => ?_) (fun cdv A outer s0_ H0 vs Q E hr gd h => ?_)
  · obtain ⟨_, _, _, _, _, _, _, _, ⟨_, _, rfl, _, ⟨_, _, rfl, _, ⟨_, rfl, _⟩⟩⟩, _⟩ := h
    rfl
  · obtain ⟨_, a, S0, s0, r, s', e0, p0, ⟨_, _, rfl, rfl, ⟨_, _, rfl, rfl, ⟨_, rfl, rfl⟩⟩⟩, hm0, fin0⟩ := h
    obtain ⟨p_number, p_e, p_n⟩ := a
    have fin : ∀ v {H' : Hp}, (∃ S', Gm (pt0).M S0 H0 S' H' ∧ PotAt pt0 s' S' H' ∧ rI r v S') → Q v H' := fun v {H'} ⟨S', h1, h2, h3⟩ => fin0 v S' H' h1 h2 h3
    have w0 : Wd pt0 S0 H0 S0 H0 [] := Wd.start e0
    have hm0 : Mir.run (m_power_rest p_number p_e p_n) s0 = some (r, s') := hm0
    unfold m_power_rest at hm0
    have sc := sc_power_rest
    refine ⟨_, pss_cons (ps_par (i := 3) (j := 4) rfl sc.nd rfl rfl (by decide) rfl rfl (pa_cons (pe_op op_mod (pe_int) (pv 2)) (pa_cons (pe_op op_mod (pv 0) (pv 2)) (pa_nil))) (by rfl)) (pss_cons (ps_while PassesOwn.never (pt_cmpR op_gt (pv 1) (pe_int) (nomark _)) (pss_cons (ps_if (pt_cmpR op_eq (pe_op op_mod (pv 1) (pe_int)) (pe_int) (nomark _)) (pss_cons (ps_set (i := 3) sc.nd rfl (by first | exact Or.inl rfl | exact Or.inr rfl) (pe_op op_mod (pe_op op_mulX (pv 3) (pv 4)) (pv 2))) (pss_nil)) (pss_nil)) (pss_cons (ps_par (i := 4) (j := 1) rfl sc.nd rfl rfl (by decide) rfl rfl (pa_cons (pe_op op_mod (pe_op op_mulX (pv 4) (pv 4)) (pv 2)) (pa_cons (pe_op op_fdivW (pv 1) (pe_int)) (pa_nil))) (by rfl)) (pss_nil)))) (pss_cons (ps_ret (pv 3)) (pss_nil))), ?_⟩
    refine par_go ?_
    refine x_ev w0 p0 (e_mod e_cI (e_var (R := rI) rfl rfl)) hm0 ?_
    intro found1 vfound9 S2 H3 s4 w5 p6 g8 rfound10 hm7
    cases (show vfound9 = .int found1 from rfound10)
    refine x_ev w5 p6 (e_mod (e_var (R := rI) rfl rfl) (e_var (R := rI) rfl rfl)) hm7 ?_
    intro here11 vhere19 S12 H13 s14 w15 p16 g18 rhere20 hm17
    cases (show vhere19 = .int here11 from rhere20)
    refine par_end [some (.int p_number), some (.int p_e), some (.int p_n), some (.int found1), some (.int here11)] rfl ?_
    refine q_wh (p := pt0) (fun st21 σ S' H' s' => σ = [some (.int p_number), some (.int st21.1), some (.int p_n), some (.int st21.2.1), some (.int st21.2.2)] ∧ Wd pt0 S0 H0 S' H' [] ∧ PotAt pt0 s' S' H' ∧ Ex S12 S') ⟨rfl, w15, p16, Ex.rf⟩ hm17 ?_ ?_ ?_ ?_
    · rintro st21 _ S27 H28 s29 ⟨rfl, w24, p25, eb26⟩
      exact ⟨p25, w24.i, (t_Test (e_gt (e_var (R := rI) rfl rfl) e_cI))⟩
    · rintro st21 _ S33 H34 s35 S36 H37 s38 ⟨rfl, w30, p31, eb32⟩ g39 p40
      exact ⟨rfl, w30.go g39, p40, eb32.tr g39.s⟩
    · rintro st21 _ S44 H45 s46 st21_ s2_ D_ ⟨rfl, w41, p42, eb43⟩ hm47 nx48
      refine q_ifj (p := pt0) (fun st52 σ S' H' s' => σ = [some (.int p_number), some (.int st21.1), some (.int p_n), some (.int st52), some (.int st21.2.2)] ∧ Wd pt0 S0 H0 S' H' [] ∧ PotAt pt0 s' S' H' ∧ Ex S44 S') w41 p42 (t_Test (e_eq (e_mod (e_var (R := rI) rfl rfl) e_cI) e_cI)) hm47 ?_ ?_ ?_
      · intro S53 H54 s55 st52_ s2_ D_ w56 p57 g58 hm59 nx60
        have eb43 := eb43.tr g58.s
        have eb61 := g58.s
        refine q_set (fun v => [some (.int p_number), some (.int st21.1), some (.int p_n), some v, some (.int st21.2.2)]) (fun _ => rfl) w56 p57 (e_mod (e_mul (e_var (R := rI) rfl rfl) (e_var (R := rI) rfl rfl)) (e_var (R := rI) rfl rfl)) hm59 ?_
        intro found62 vfound70 S63 H64 s65 w66 p67 g69 rfound71 hm68
        cases (show vfound70 = .int found62 from rfound71)
        have eb43 := eb43.tr g69.s
        have eb61 := eb61.tr g69.s
        cases run_of_pure hm68
        exact nx60 _ _ _ ⟨rfl, w66, p67, eb61⟩
      · intro S72 H73 s74 st52_ s2_ D_ w75 p76 g77 hm78 nx79
        have eb43 := eb43.tr g77.s
        have eb80 := g77.s
        cases run_of_pure hm78
        exact nx79 _ _ _ ⟨rfl, w75, p76, eb80⟩
      · rintro st52 _ S84 H85 s86 ⟨rfl, w81, p82, eb83⟩ hm87
        have eb43 := eb43.tr eb83
        refine par_go ?_
        refine x_ev w81 p82 (e_mod (e_mul (e_var (R := rI) rfl rfl) (e_var (R := rI) rfl rfl)) (e_var (R := rI) rfl rfl)) hm87 ?_
        intro here88 vhere96 S89 H90 s91 w92 p93 g95 rhere97 hm94
        cases (show vhere96 = .int here88 from rhere97)
        have eb43 := eb43.tr g95.s
        refine x_ev w92 p93 (e_fdiv (e_var (R := rI) rfl rfl) e_cI) hm94 ?_
        intro e98 ve106 S99 H100 s101 w102 p103 g105 re107 hm104
        cases (show ve106 = .int e98 from re107)
        have eb43 := eb43.tr g105.s
        refine par_end [some (.int p_number), some (.int e98), some (.int p_n), some (.int st52), some (.int here88)] rfl ?_
        cases run_of_pure hm104
        exact (nx48 _ _ _ ⟨rfl, w102, p103, eb43⟩).1
    · rintro st21 _ S111 H112 s113 ⟨rfl, w108, p109, eb110⟩ hm114
      refine q_ret w108 p109 (e_var (R := rI) rfl rfl) hm114 ?_
      intro r122 v123 S115 H116 s117 w118 p119 g121 rr124 hm120
      cases run_of_pure hm120
      exact fin _ ⟨S115, w118.g, p119, rr124⟩
end
abbrev t_does_pass : Stmt := top 12
theorem sc_does_pass : FnScope ["n", "base"] ["n", "base"] (defScope t_does_pass) := ⟨rfl, rfl, rfl, by decide +kernel, rfl, by decide +kernel, by decide +kernel⟩
@[irreducible] noncomputable def m_does_pass (p_n : Int) (p_base : Int) : Option Bool :=
Mir.lft (m_power_rest p_base (p_n - (1 : Int)) p_n) >>= fun r11 => Mir.lft (grd (0 < p_n)) >>= fun _ => bnd (decide (r11 = ((1 : Int) % p_n))) fun r8 => pure r8
noncomputable abbrev fm_does_pass : (Int × Int) → Option Bool := fun (a0, a1) => m_does_pass a0 a1
abbrev sp_does_pass (K : PySem.W.Frag) : Sp := spV F0 fm_does_pass (fun _ => (aCons rI (aOne rI))) rB
section
variable {P : Program} {w : World} {K : PySem.W.Frag} {mg : Str → Option Value} {base : Heap}
theorem g_does_pass (T : Tx mg base) (D0 : Dk P w K mg base "power_rest" "power_rest" t_power_rest 1 ["number", "e", "n"] (sp_power_rest K)) {f : Addr} {fd : FuncData} (F : Fun K "does_pass" "does_pass" t_does_pass f fd) : FnG P w K mg base CX0 2 f fd ["n", "base"] (sp_does_pass K) := by
  obtain ⟨f0, fd0, F0, m0, G0, b0⟩ := D0
  refine okG0 F sc_does_pass (fun vs H Q E h => ?_) (fun cdv A outer s0_ H0 vs Q E hr gd h => ?_)
  · obtain ⟨_, _, _, _, _, _, _, _, ⟨_, _, rfl, _, ⟨_, rfl, _⟩⟩, _⟩ := h
    rfl
  · obtain ⟨_, a, S0, s0, r, s', e0, p0, ⟨_, _, rfl, rfl, ⟨_, rfl, rfl⟩⟩, hm0, fin0⟩ := h
    obtain ⟨p_n, p_base⟩ := a
    have fin : ∀ v {H' : Hp}, (∃ S', Gm (pt0).M S0 H0 S' H' ∧ PotAt pt0 s' S' H' ∧ rB r v S') → Q v H' := fun v {H'} ⟨S', h1, h2, h3⟩ => fin0 v S' H' h1 h2 h3
    have w0 : Wd pt0 S0 H0 S0 H0 [] := Wd.start e0
    have hm0 : Mir.run (m_does_pass p_n p_base) s0 = some (r, s') := hm0
    unfold m_does_pass at hm0
    have sc := sc_does_pass
    refine ⟨_, pss_cons (ps_ret (pe_cmpR op_eq (pe_cG G0 (hr.mono (by decide)) gd rfl m0 F0.kp b0 pass0 (pa_cons (pv 1) (pa_cons (pe_op op_sub (pv 0) (pe_int)) (pa_cons (pv 0) (pa_nil))))) (pe_op op_mod (pe_int) (pv 0)) (nomark _))) (pss_nil), ?_⟩
    refine q_ret w0 p0 (e_eq (Ev.eta (e_call (E := E0) (fm := fm_power_rest) (R := rI) (a_cons (e_var (R := rI) rfl rfl) (a_cons (e_sub (e_var (R := rI) rfl rfl) e_cI) (a_one (e_var (R := rI) rfl rfl)))))) (e_mod e_cI (e_var (R := rI) rfl rfl))) hm0 ?_
    intro r8 v9 S1 H2 s3 w4 p5 g7 rr10 hm6
    cases run_of_pure hm6
    exact fin _ ⟨S1, w4.g, p5, rr10⟩
end
abbrev t_halves_of : Stmt := top 14
theorem sc_halves_of : FnScope ["n", "s", "d"] ["n"] (defScope t_halves_of) := ⟨rfl, rfl, rfl, by decide +kernel, rfl, by decide +kernel, by decide +kernel⟩
@[irreducible] noncomputable def m_halves_of (p_n : Int) : Option (Int × Int) :=
bnd (0 : Int) fun s1 =>
bnd (p_n - (1 : Int)) fun d11 =>
(whS many (fun (st21 : Int × Int) k => Mir.lft (grd (0 < (2 : Int))) >>= fun _ => k (decide ((st21.2 % (2 : Int)) = (0 : Int)))) (fun (st21 : Int × Int) =>
bnd (st21.1 + (1 : Int)) fun s52 =>
Mir.lft (grd (Dv (2 : Int))) >>= fun _ => bnd (st21.2 / (2 : Int)) fun d62 =>
pure (s52, d62)) (s1, d11)) >>= fun (st21 : Int × Int) =>
bnd (st21.1, st21.2) fun r86 => pure r86
noncomputable abbrev fm_halves_of : (Int) → Option (Int × Int) := fun a => m_halves_of a
abbrev sp_halves_of (K : PySem.W.Frag) : Sp := spV F0 fm_halves_of (fun _ => (aOne rI)) (rT K (aCons rI (aOne rI)))
section
variable {P : Program} {w : World} {K : PySem.W.Frag} {mg : Str → Option Value} {base : Heap}
theorem g_halves_of (T : Tx mg base)  {f : Addr} {fd : FuncData} (F : Fun K "halves_of" "halves_of" t_halves_of f fd) : FnG P w K mg base CX0 1 f fd ["n"] (sp_halves_of K) := by
  refine okG0 F sc_halves_of (fun vs H Q E h => ?_) (fun cdv A outer s0_ H0 vs Q E hr gd h => ?_)
  · obtain ⟨_, _, _, _, _, _, _, _, ⟨_, rfl, _⟩, _⟩ := h
    rfl
  · obtain ⟨_, p_n, S0, s0, r, s', e0, p0, ⟨_, rfl, rfl⟩, hm0, fin0⟩ := h
    have fin : ∀ v {H' : Hp}, (∃ S', Gm (pt0).M S0 H0 S' H' ∧ PotAt pt0 s' S' H' ∧ (rT K (aCons rI (aOne rI))) r v S') → Q v H' := fun v {H'} ⟨S', h1, h2, h3⟩ => fin0 v S' H' h1 h2 h3
    have w0 : Wd pt0 S0 H0 S0 H0 [] := Wd.start e0
    have hm0 : Mir.run (m_halves_of p_n) s0 = some (r, s') := hm0
    unfold m_halves_of at hm0
    have sc := sc_halves_of
    refine ⟨_, pss_cons (ps_par (i := 1) (j := 2) rfl sc.nd rfl rfl (by decide) rfl rfl (pa_cons (pe_int) (pa_cons (pe_op op_sub (pv 0) (pe_int)) (pa_nil))) (by rfl)) (pss_cons (ps_while PassesOwn.never (pt_cmpR op_eq (pe_op op_mod (pv 2) (pe_int)) (pe_int) (nomark _)) (pss_cons (ps_par (i := 1) (j := 2) rfl sc.nd rfl rfl (by decide) rfl rfl (pa_cons (pe_op op_add (pv 1) (pe_int)) (pa_cons (pe_op op_fdivW (pv 2) (pe_int)) (pa_nil))) (by rfl)) (pss_nil))) (pss_cons (ps_ret (pe_tup (pa_cons (pv 1) (pa_cons (pv 2) (pa_nil))))) (pss_nil))), ?_⟩
    refine par_go ?_
    refine x_ev w0 p0 e_cI hm0 ?_
    intro s1 vs9 S2 H3 s4 w5 p6 g8 rs10 hm7
    cases (show vs9 = .int s1 from rs10)
    refine x_ev w5 p6 (e_sub (e_var (R := rI) rfl rfl) e_cI) hm7 ?_
    intro d11 vd19 S12 H13 s14 w15 p16 g18 rd20 hm17
    cases (show vd19 = .int d11 from rd20)
    refine par_end [some (.int p_n), some (.int s1), some (.int d11)] rfl ?_
    refine q_wh (p := pt0) (fun st21 σ S' H' s' => σ = [some (.int p_n), some (.int st21.1), some (.int st21.2)] ∧ Wd pt0 S0 H0 S' H' [] ∧ PotAt pt0 s' S' H' ∧ Ex S12 S') ⟨rfl, w15, p16, Ex.rf⟩ hm17 ?_ ?_ ?_ ?_
    · rintro st21 _ S27 H28 s29 ⟨rfl, w24, p25, eb26⟩
      exact ⟨p25, w24.i, (t_Test (e_eq (e_mod (e_var (R := rI) rfl rfl) e_cI) e_cI))⟩
    · rintro st21 _ S33 H34 s35 S36 H37 s38 ⟨rfl, w30, p31, eb32⟩ g39 p40
      exact ⟨rfl, w30.go g39, p40, eb32.tr g39.s⟩
    · rintro st21 _ S44 H45 s46 st21_ s2_ D_ ⟨rfl, w41, p42, eb43⟩ hm47 nx48
      refine par_go ?_
      refine x_ev w41 p42 (e_add (e_var (R := rI) rfl rfl) e_cI) hm47 ?_
      intro s52 vs60 S53 H54 s55 w56 p57 g59 rs61 hm58
      cases (show vs60 = .int s52 from rs61)
      have eb43 := eb43.tr g59.s
      refine x_ev w56 p57 (e_fdiv (e_var (R := rI) rfl rfl) e_cI) hm58 ?_
      intro d62 vd70 S63 H64 s65 w66 p67 g69 rd71 hm68
      cases (show vd70 = .int d62 from rd71)
      have eb43 := eb43.tr g69.s
      refine par_end [some (.int p_n), some (.int s52), some (.int d62)] rfl ?_
      cases run_of_pure hm68
      exact (nx48 _ _ _ ⟨rfl, w66, p67, eb43⟩).1
    · rintro st21 _ S75 H76 s77 ⟨rfl, w72, p73, eb74⟩ hm78
      refine q_ret w72 p73 (e_tup (K := K) (a_cons (e_var (R := rI) rfl rfl) (a_one (e_var (R := rI) rfl rfl))) (arN_cons arN_one) (by decide)) hm78 ?_
      intro r86 v87 S79 H80 s81 w82 p83 g85 rr88 hm84
      cases run_of_pure hm84
      exact fin _ ⟨S79, w82.g, p83, rr88⟩
end
abbrev t_does_pass_strongly : Stmt := top 15
theorem sc_does_pass_strongly : FnScope ["n", "base", "here", "step", "s", "d"] ["n", "base"] (defScope t_does_pass_strongly) := ⟨rfl, rfl, rfl, by decide +kernel, rfl, by decide +kernel, by decide +kernel⟩
@[irreducible] noncomputable def m_does_pass_strongly (p_n : Int) (p_base : Int) : Option Bool :=
Mir.lft (m_halves_of p_n) >>= fun r140 => bnd r140 fun t1 =>
Mir.lft (m_power_rest p_base t1.2 p_n) >>= fun r139 => bnd r139 fun here10 =>
if (decide (here10 = (1 : Int))) = true then
(bnd true fun r34 => pure r34)
else
(Mir.lft (grd (RgB t1.1)) >>= fun _ => (lpC (ρ := Bool) (rng 0 t1.1) (fun (x46 : Int) (st44 : Int) =>
if (decide (st44 = (p_n - (1 : Int)))) = true then
(bnd true fun r99 => pure (Ctl.ret r99))
else
(Mir.lft (grd (Sm st44 ∧ Sm st44)) >>= fun _ => Mir.lft (grd (0 < p_n)) >>= fun _ => bnd ((st44 * st44) % p_n) fun here109 =>
pure (Ctl.go here109))) here10) >>= fun o => aft o (fun (st44 : Int) =>
bnd false fun r134 => pure r134) (fun r137 => pure r137))
noncomputable abbrev fm_does_pass_strongly : (Int × Int) → Option Bool := fun (a0, a1) => m_does_pass_strongly a0 a1
abbrev sp_does_pass_strongly (K : PySem.W.Frag) : Sp := spV F0 fm_does_pass_strongly (fun _ => (aCons rI (aOne rI))) rB
section
variable {P : Program} {w : World} {K : PySem.W.Frag} {mg : Str → Option Value} {base : Heap}
theorem g_does_pass_strongly (T : Tx mg base) (D0 : Dk P w K mg base "halves_of" "halves_of" t_halves_of 1 ["n"] (sp_halves_of K)) (D1 : Dk P w K mg base "power_rest" "power_rest" t_power_rest 1 ["number", "e", "n"] (sp_power_rest K)) {f : Addr} {fd : FuncData} (F : Fun K "does_pass_strongly" "does_pass_strongly" t_does_pass_strongly f fd) : FnG P w K mg base CX0 2 f fd ["n", "base"] (sp_does_pass_strongly K) := by
  obtain ⟨f0, fd0, F0, m0, G0, b0⟩ := D0
  obtain ⟨f1, fd1, F1, m1, G1, b1⟩ := D1
  refine okG0 F sc_does_pass_strongly (fun vs H Q E h => ?_) (fun cdv A outer s0_ H0 vs Q E hr gd h => ?_)
  · obtain ⟨_, _, _, _, _, _, _, _, ⟨_, _, rfl, _, ⟨_, rfl, _⟩⟩, _⟩ := h
    rfl
  · obtain ⟨_, a, S0, s0, r, s', e0, p0, ⟨_, _, rfl, rfl, ⟨_, rfl, rfl⟩⟩, hm0, fin0⟩ := h
    obtain ⟨p_n, p_base⟩ := a
    have fin : ∀ v {H' : Hp}, (∃ S', Gm (pt0).M S0 H0 S' H' ∧ PotAt pt0 s' S' H' ∧ rB r v S') → Q v H' := fun v {H'} ⟨S', h1, h2, h3⟩ => fin0 v S' H' h1 h2 h3
    have w0 : Wd pt0 S0 H0 S0 H0 [] := Wd.start e0
    have hm0 : Mir.run (m_does_pass_strongly p_n p_base) s0 = some (r, s') := hm0
    unfold m_does_pass_strongly at hm0
    have sc := sc_does_pass_strongly
    refine ⟨_, pss_cons (ps_asg (pe_cG G0 (hr.mono (by decide)) gd rfl m0 F0.kp b0 pass0 (pa_cons (pv 0) (pa_nil))) (k_gt K (pgs_cons (pg_name (i := 4) sc.nd rfl (by first | exact Or.inl rfl | exact Or.inr rfl)) (pgs_cons (pg_name (i := 5) sc.nd rfl (by first | exact Or.inl rfl | exact Or.inr rfl)) (pgs_nil))))) (pss_cons (ps_set (i := 2) sc.nd rfl (by first | exact Or.inl rfl | exact Or.inr rfl) (pe_cG G1 (hr.mono (by decide)) gd rfl m1 F1.kp b1 pass0 (pa_cons (pv 1) (pa_cons (pv 5) (pa_cons (pv 0) (pa_nil)))))) (pss_cons (ps_if (pt_cmpR op_eq (pv 2) (pe_int) (nomark _)) (pss_cons (ps_ret (pe_bl)) (pss_nil)) (pss_nil)) (pss_cons (ps_for PassesOwn.never rfl (pi_range1 rfl T.n_range (pa_cons (pv 4) pa_nil)) (pg_name (i := 3) sc.nd rfl (by first | exact Or.inl rfl | exact Or.inr rfl)) (pss_cons (ps_if (pt_cmpR op_eq (pv 2) (pe_op op_sub (pv 0) (pe_int)) (nomark _)) (pss_cons (ps_ret (pe_bl)) (pss_nil)) (pss_nil)) (pss_cons (ps_set (i := 2) sc.nd rfl (by first | exact Or.inl rfl | exact Or.inr rfl) (pe_op op_mod (pe_op op_mulX (pv 2) (pv 2)) (pv 0))) (pss_nil)))) (pss_cons (ps_ret (pe_bl)) (pss_nil))))), ?_⟩
    refine q_unp w0 p0 (Ev.eta (e_call (E := E0) (fm := fm_halves_of) (R := (rT K (aCons rI (aOne rI)))) (a_one (e_var (R := rI) rfl rfl)))) (g_tp (gq_cons (g_nm (R := rI)) (gq_one (g_nm (R := rI))))) hm0 ?_
    intro t1 σ9 S2 H3 s4 w5 p6 g8 hp hm7
    obtain ⟨_, ⟨_, rfl, rfl⟩, ⟨_, rfl, rfl⟩⟩ := hp
    refine q_set (fun v => [some (.int p_n), some (.int p_base), some v, none, some (.int t1.1), some (.int t1.2)]) (fun _ => rfl) w5 p6 (Ev.eta (e_call (E := E0) (fm := fm_power_rest) (R := rI) (a_cons (e_var (R := rI) rfl rfl) (a_cons (e_var (R := rI) rfl rfl) (a_one (e_var (R := rI) rfl rfl)))))) hm7 ?_
    intro here10 vhere18 S11 H12 s13 w14 p15 g17 rhere19 hm16
    cases (show vhere18 = .int here10 from rhere19)
    refine q_if w14 p15 (t_Test (e_eq (e_var (R := rI) rfl rfl) e_cI)) hm16 ?_ ?_
    · intro S20 H21 s22 w23 p24 g25 hm26
      refine q_ret w23 p24 e_cB hm26 ?_
      intro r34 v35 S27 H28 s29 w30 p31 g33 rr36 hm32
      cases run_of_pure hm32
      exact fin _ ⟨S27, w30.g, p31, rr36⟩
    · intro S37 H38 s39 w40 p41 g42 hm43
      refine nx_done ?_
      refine q_forC (p := pt0) (ρ := Bool) w40 p41 (i_R1 (e_var (R := rI) rfl rfl)) (g_nm (R := rI)) hm43 (fun Sb45 st44 σ S' H' s' => Ex Sb45 S' ∧ (∃ (xstep_ : Option V), σ = [some (.int p_n), some (.int p_base), some (.int st44), xstep_, some (.int t1.1), some (.int t1.2)] ∧ Wd pt0 S0 H0 S' H' [] ∧ PotAt pt0 s' S' H' ∧ Ex S37 S')) (fun r v H' s' => ∃ S', Gm (pt0).M S0 H0 S' H' ∧ PotAt pt0 s' S' H' ∧ rB r v S') ?_ ?_ ?_ ?_ ?_ ?_
      · intro S47 H48 s49 w50 p51 g52
        exact ⟨Ex.rf, ⟨_, rfl, w50, p51, g52.s⟩⟩
      · rintro Sb45 st44 _ S57 H58 s59 ⟨ex60, ⟨xstep53, rfl, w54, p55, eb56⟩⟩
        exact ⟨ex60, w54.i, p55, ownOk0⟩
      · rintro Sb45 st44 _ S65 H66 s67 S68 H69 ⟨ex71, ⟨xstep61, rfl, w62, p63, eb64⟩⟩ g70
        exact ⟨ex71.tr g70.s, _, rfl, w62.go (Gm.up g70), PotAt.go p63 g70, eb64.tr g70.s⟩
      · rintro Sb45 x46 st44 _ σ84 S76 H77 s78 st44_ s2_ D_ ⟨ex83, ⟨xstep72, rfl, w73, p74, eb75⟩⟩ hp hm79 nx80 bk81 rt82
        obtain ⟨_, rfl, rfl⟩ := hp
        refine q_if w73 p74 (t_Test (e_eq (e_var (R := rI) rfl rfl) (e_sub (e_var (R := rI) rfl rfl) e_cI))) hm79 ?_ ?_
        · intro S85 H86 s87 w88 p89 g90 hm91
          have eb75 := eb75.tr g90.s
          have ex83 := ex83.tr g90.s
          refine q_ret w88 p89 e_cB hm91 ?_
          intro r99 v100 S92 H93 s94 w95 p96 g98 rr101 hm97
          cases run_of_pure hm97
          exact rt82 _ _ _ rfl ⟨S92, w95.g, p96, rr101⟩
        · intro S102 H103 s104 w105 p106 g107 hm108
          have eb75 := eb75.tr g107.s
          have ex83 := ex83.tr g107.s
          refine nx_done ?_
          refine q_set (fun v => [some (.int p_n), some (.int p_base), some v, some (.int x46), some (.int t1.1), some (.int t1.2)]) (fun _ => rfl) w105 p106 (e_mod (e_mul (e_var (R := rI) rfl rfl) (e_var (R := rI) rfl rfl)) (e_var (R := rI) rfl rfl)) hm108 ?_
          intro here109 vhere117 S110 H111 s112 w113 p114 g116 rhere118 hm115
          cases (show vhere117 = .int here109 from rhere118)
          have eb75 := eb75.tr g116.s
          have ex83 := ex83.tr g116.s
          cases run_of_pure hm115
          exact (nx80 _ _ _ _ rfl ⟨ex83, ⟨_, rfl, w113, p114, eb75⟩⟩).1
      · rintro Sb45 st44 _ S123 H124 s125 ⟨_, ⟨xstep119, rfl, w120, p121, eb122⟩⟩ hm126
        have hm126 := hm126.elim id id
        refine q_ret w120 p121 e_cB hm126 ?_
        intro r134 v135 S127 H128 s129 w130 p131 g133 rr136 hm132
        cases run_of_pure hm132
        exact fin _ ⟨S127, w130.g, p131, rr136⟩
      · intro r137 v138 H' s' hr1 hm1
        cases run_of_pure hm1
        exact fin _ hr1
end
abbrev t_passes_number : Stmt := top 16
theorem sc_passes_number : FnScope ["n", "found", "p", "k"] ["n"] (defScope t_passes_number) := ⟨rfl, rfl, rfl, by decide +kernel, rfl, by decide +kernel, by decide +kernel⟩
@[irreducible] noncomputable def m_passes_number (p_n : Int) : Option Int :=
bnd (1 : Int) fun found1 =>
Mir.lft (m_primes_of p_n) >>= fun r85 => (lpS r85 (fun (x13 : (Int × Int)) (st11 : Int) =>
Mir.lft (m_common_divisor (p_n - (1 : Int)) (x13.1 - (1 : Int))) >>= fun r65 => Mir.lft (grd (Sm st11 ∧ Sm r65)) >>= fun _ => bnd (st11 * r65) fun found55 =>
pure found55) found1) >>= fun (st11 : Int) =>
bnd st11 fun r82 => pure r82
noncomputable abbrev fm_passes_number : (Int) → Option Int := fun a => m_passes_number a
abbrev sp_passes_number (K : PySem.W.Frag) : Sp := spV F0 fm_passes_number (fun _ => (aOne rI)) rI
section
variable {P : Program} {w : World} {K : PySem.W.Frag} {mg : Str → Option Value} {base : Heap}
theorem g_passes_number (T : Tx mg base) (D0 : Dk P w K mg base "primes_of" "primes_of" t_primes_of 4 ["number"] (sp_primes_of K)) (D1 : Dk P w K mg base "common_divisor" "common_divisor" t_common_divisor 1 ["one", "other"] (sp_common_divisor K)) {f : Addr} {fd : FuncData} (F : Fun K "passes_number" "passes_number" t_passes_number f fd) : FnG P w K mg base CX0 5 f fd ["n"] (sp_passes_number K) := by
  obtain ⟨f0, fd0, F0, m0, G0, b0⟩ := D0
  obtain ⟨f1, fd1, F1, m1, G1, b1⟩ := D1
  refine okG0 F sc_passes_number (fun vs H Q E h => ?_) (fun cdv A outer s0_ H0 vs Q E hr gd h => ?_)
  · obtain ⟨_, _, _, _, _, _, _, _, ⟨_, rfl, _⟩, _⟩ := h
    rfl
  · obtain ⟨_, p_n, S0, s0, r, s', e0, p0, ⟨_, rfl, rfl⟩, hm0, fin0⟩ := h
    have fin : ∀ v {H' : Hp}, (∃ S', Gm (pt0).M S0 H0 S' H' ∧ PotAt pt0 s' S' H' ∧ rI r v S') → Q v H' := fun v {H'} ⟨S', h1, h2, h3⟩ => fin0 v S' H' h1 h2 h3
    have w0 : Wd pt0 S0 H0 S0 H0 [] := Wd.start e0
    have hm0 : Mir.run (m_passes_number p_n) s0 = some (r, s') := hm0
    unfold m_passes_number at hm0
    have sc := sc_passes_number
    refine ⟨_, pss_cons (ps_set (i := 1) sc.nd rfl (by first | exact Or.inl rfl | exact Or.inr rfl) (pe_int)) (pss_cons (ps_for PassesOwn.never rfl (k_pit K (pe_cG G0 (hr.mono (by decide)) gd rfl m0 F0.kp b0 pass0 (pa_cons (pv 0) (pa_nil)))) (k_gt K (pgs_cons (pg_name (i := 2) sc.nd rfl (by first | exact Or.inl rfl | exact Or.inr rfl)) (pgs_cons (pg_name (i := 3) sc.nd rfl (by first | exact Or.inl rfl | exact Or.inr rfl)) (pgs_nil)))) (pss_cons (ps_set (i := 1) sc.nd rfl (by first | exact Or.inl rfl | exact Or.inr rfl) (pe_op op_mulX (pv 1) (pe_cG G1 (hr.mono (by decide)) gd rfl m1 F1.kp b1 pass0 (pa_cons (pe_op op_sub (pv 0) (pe_int)) (pa_cons (pe_op op_sub (pv 2) (pe_int)) (pa_nil)))))) (pss_nil))) (pss_cons (ps_ret (pv 1)) (pss_nil))), ?_⟩
    refine q_set (fun v => [some (.int p_n), some v, none, none]) (fun _ => rfl) w0 p0 e_cI hm0 ?_
    intro found1 vfound9 S2 H3 s4 w5 p6 g8 rfound10 hm7
    cases (show vfound9 = .int found1 from rfound10)
    refine q_for (p := pt0) w5 p6 (i_T (Ev.eta (e_call (E := E0) (fm := fm_primes_of) (R := (rT K (aAll (rT K (aCons rI (aOne rI)))))) (a_one (e_var (R := rI) rfl rfl))))) (g_tp (gq_cons (g_nm (R := rI)) (gq_one (g_nm (R := rI))))) hm7 (fun Sb12 st11 σ S' H' s' => Ex Sb12 S' ∧ (∃ (xp_ : Option V) (xk_ : Option V), σ = [some (.int p_n), some (.int st11), xp_, xk_] ∧ Wd pt0 S0 H0 S' H' [] ∧ PotAt pt0 s' S' H' ∧ Ex S2 S')) ?_ ?_ ?_ ?_ ?_
    · intro S14 H15 s16 w17 p18 g19
      exact ⟨Ex.rf, ⟨_, _, rfl, w17, p18, g19.s⟩⟩
    · rintro Sb12 st11 _ S25 H26 s27 ⟨ex28, ⟨xp20, xk21, rfl, w22, p23, eb24⟩⟩
      exact ⟨ex28, w22.i, p23, ownOk0⟩
    · rintro Sb12 st11 _ S34 H35 s36 S37 H38 ⟨ex40, ⟨xp29, xk30, rfl, w31, p32, eb33⟩⟩ g39
      exact ⟨ex40.tr g39.s, _, _, rfl, w31.go (Gm.up g39), PotAt.go p32 g39, eb33.tr g39.s⟩
    · rintro Sb12 x13 st11 _ σ54 S46 H47 s48 st11_ s2_ D_ ⟨ex53, ⟨xp41, xk42, rfl, w43, p44, eb45⟩⟩ hp hm49 nx50
      obtain ⟨_, ⟨_, rfl, rfl⟩, ⟨_, rfl, rfl⟩⟩ := hp
      refine q_set (fun v => [some (.int p_n), some v, some (.int x13.1), some (.int x13.2)]) (fun _ => rfl) w43 p44 (e_mul (e_var (R := rI) rfl rfl) (Ev.eta (e_call (E := E0) (fm := fm_common_divisor) (R := rI) (a_cons (e_sub (e_var (R := rI) rfl rfl) e_cI) (a_one (e_sub (e_var (R := rI) rfl rfl) e_cI)))))) hm49 ?_
      intro found55 vfound63 S56 H57 s58 w59 p60 g62 rfound64 hm61
      cases (show vfound63 = .int found55 from rfound64)
      have eb45 := eb45.tr g62.s
      have ex53 := ex53.tr g62.s
      cases run_of_pure hm61
      exact (nx50 _ _ _ ⟨ex53, ⟨_, _, rfl, w59, p60, eb45⟩⟩).1
    · rintro Sb12 st11 _ S71 H72 s73 ⟨_, ⟨xp66, xk67, rfl, w68, p69, eb70⟩⟩ hm74
      refine q_ret w68 p69 (e_var (R := rI) rfl rfl) hm74 ?_
      intro r82 v83 S75 H76 s77 w78 p79 g81 rr84 hm80
      cases run_of_pure hm80
      exact fin _ ⟨S75, w78.g, p79, rr84⟩
end
abbrev t_twos_in : Stmt := top 17
theorem sc_twos_in : FnScope ["number", "found"] ["number"] (defScope t_twos_in) := ⟨rfl, rfl, rfl, by decide +kernel, rfl, by decide +kernel, by decide +kernel⟩
@[irreducible] noncomputable def m_twos_in (p_number : Int) : Option Int :=
bnd (0 : Int) fun found1 =>
(whS many (fun (st11 : Int × Int) k => Mir.lft (grd (0 < (2 : Int))) >>= fun _ => k (decide ((st11.1 % (2 : Int)) = (0 : Int)))) (fun (st11 : Int × Int) =>
Mir.lft (grd (Dv (2 : Int))) >>= fun _ => bnd (st11.1 / (2 : Int)) fun number42 =>
bnd (st11.2 + (1 : Int)) fun found52 =>
pure (number42, found52)) (p_number, found1)) >>= fun (st11 : Int × Int) =>
bnd st11.2 fun r76 => pure r76
noncomputable abbrev fm_twos_in : (Int) → Option Int := fun a => m_twos_in a
abbrev sp_twos_in (K : PySem.W.Frag) : Sp := spV F0 fm_twos_in (fun _ => (aOne rI)) rI
section
variable {P : Program} {w : World} {K : PySem.W.Frag} {mg : Str → Option Value} {base : Heap}
theorem g_twos_in (T : Tx mg base)  {f : Addr} {fd : FuncData} (F : Fun K "twos_in" "twos_in" t_twos_in f fd) : FnG P w K mg base CX0 1 f fd ["number"] (sp_twos_in K) := by
  refine okG0 F sc_twos_in (fun vs H Q E h => ?_) (fun cdv A outer s0_ H0 vs Q E hr gd h => ?_)
  · obtain ⟨_, _, _, _, _, _, _, _, ⟨_, rfl, _⟩, _⟩ := h
    rfl
  · obtain ⟨_, p_number, S0, s0, r, s', e0, p0, ⟨_, rfl, rfl⟩, hm0, fin0⟩ := h
    have fin : ∀ v {H' : Hp}, (∃ S', Gm (pt0).M S0 H0 S' H' ∧ PotAt pt0 s' S' H' ∧ rI r v S') → Q v H' := fun v {H'} ⟨S', h1, h2, h3⟩ => fin0 v S' H' h1 h2 h3
    have w0 : Wd pt0 S0 H0 S0 H0 [] := Wd.start e0
    have hm0 : Mir.run (m_twos_in p_number) s0 = some (r, s') := hm0
    unfold m_twos_in at hm0
    have sc := sc_twos_in
    refine ⟨_, pss_cons (ps_set (i := 1) sc.nd rfl (by first | exact Or.inl rfl | exact Or.inr rfl) (pe_int)) (pss_cons (ps_while PassesOwn.never (pt_cmpR op_eq (pe_op op_mod (pv 0) (pe_int)) (pe_int) (nomark _)) (pss_cons (ps_par (i := 0) (j := 1) rfl sc.nd rfl rfl (by decide) rfl rfl (pa_cons (pe_op op_fdivW (pv 0) (pe_int)) (pa_cons (pe_op op_add (pv 1) (pe_int)) (pa_nil))) (by rfl)) (pss_nil))) (pss_cons (ps_ret (pv 1)) (pss_nil))), ?_⟩
    refine q_set (fun v => [some (.int p_number), some v]) (fun _ => rfl) w0 p0 e_cI hm0 ?_
    intro found1 vfound9 S2 H3 s4 w5 p6 g8 rfound10 hm7
    cases (show vfound9 = .int found1 from rfound10)
    refine q_wh (p := pt0) (fun st11 σ S' H' s' => σ = [some (.int st11.1), some (.int st11.2)] ∧ Wd pt0 S0 H0 S' H' [] ∧ PotAt pt0 s' S' H' ∧ Ex S2 S') ⟨rfl, w5, p6, Ex.rf⟩ hm7 ?_ ?_ ?_ ?_
    · rintro st11 _ S17 H18 s19 ⟨rfl, w14, p15, eb16⟩
      exact ⟨p15, w14.i, (t_Test (e_eq (e_mod (e_var (R := rI) rfl rfl) e_cI) e_cI))⟩
    · rintro st11 _ S23 H24 s25 S26 H27 s28 ⟨rfl, w20, p21, eb22⟩ g29 p30
      exact ⟨rfl, w20.go g29, p30, eb22.tr g29.s⟩
    · rintro st11 _ S34 H35 s36 st11_ s2_ D_ ⟨rfl, w31, p32, eb33⟩ hm37 nx38
      refine par_go ?_
      refine x_ev w31 p32 (e_fdiv (e_var (R := rI) rfl rfl) e_cI) hm37 ?_
      intro number42 vnumber50 S43 H44 s45 w46 p47 g49 rnumber51 hm48
      cases (show vnumber50 = .int number42 from rnumber51)
      have eb33 := eb33.tr g49.s
      refine x_ev w46 p47 (e_add (e_var (R := rI) rfl rfl) e_cI) hm48 ?_
      intro found52 vfound60 S53 H54 s55 w56 p57 g59 rfound61 hm58
      cases (show vfound60 = .int found52 from rfound61)
      have eb33 := eb33.tr g59.s
      refine par_end [some (.int number42), some (.int found52)] rfl ?_
      cases run_of_pure hm58
      exact (nx38 _ _ _ ⟨rfl, w56, p57, eb33⟩).1
    · rintro st11 _ S65 H66 s67 ⟨rfl, w62, p63, eb64⟩ hm68
      refine q_ret w62 p63 (e_var (R := rI) rfl rfl) hm68 ?_
      intro r76 v77 S69 H70 s71 w72 p73 g75 rr78 hm74
      cases run_of_pure hm74
      exact fin _ ⟨S69, w72.g, p73, rr78⟩
end
abbrev t_strong_number : Stmt := top 18
theorem sc_strong_number : FnScope ["n", "primes", "v", "step", "p", "s", "d", "found", "part", "power", "k"] ["n"] (defScope t_strong_number) := ⟨rfl, rfl, rfl, by decide +kernel, rfl, by decide +kernel, by decide +kernel⟩
@[irreducible] noncomputable def m_strong_number (p_n : Int) : Option Int :=
Mir.lft (m_primes_of p_n) >>= fun r268 => Mir.lft (grd (List.length r268 ≤ 16000000)) >>= fun _ => bnd (List.map (fun x1 => x1.1) r268) fun primes4 =>
Mir.lft (m_halves_of p_n) >>= fun r267 => bnd r267 fun t14 =>
Mir.lft (grd (List.length primes4 ≤ 16000000)) >>= fun _ => cmp primes4 (fun x23 => Mir.lft (m_twos_in (x23 - (1 : Int))) >>= fun r27 => pure (some r27)) >>= fun l266 => Mir.lft (List.min? l266) >>= fun y265 => bnd y265 fun v28 =>
bnd (1 : Int) fun found38 =>
bnd (0 : Int) fun part48 =>
bnd (1 : Int) fun power58 =>
Mir.lft (grd (RgB v28)) >>= fun _ => (lpS (rng 0 v28) (fun (x75 : Int) (st73 : Int × Int) =>
bnd (st73.1 + st73.2) fun part117 =>
(lpS primes4 (fun (x129 : Int) (st127 : Int) =>
Mir.lft (grd (Sm (2 : Int) ∧ Sm st127)) >>= fun _ => bnd ((2 : Int) * st127) fun power168 =>
pure power168) st73.2) >>= fun (st127 : Int) =>
pure (part117, st127)) (part48, power58)) >>= fun (st73 : Int × Int) =>
(lpS primes4 (fun (x197 : Int) (st195 : Int) =>
Mir.lft (m_common_divisor t14.2 (x197 - (1 : Int))) >>= fun r246 => Mir.lft (grd (Sm st195 ∧ Sm r246)) >>= fun _ => bnd (st195 * r246) fun found236 =>
pure found236) found38) >>= fun (st195 : Int) =>
Mir.lft (grd (Sm st195 ∧ Sm ((1 : Int) + st73.1))) >>= fun _ => bnd (st195 * ((1 : Int) + st73.1)) fun r262 => pure r262
noncomputable abbrev fm_strong_number : (Int) → Option Int := fun a => m_strong_number a
abbrev sp_strong_number (K : PySem.W.Frag) : Sp := spV F0 fm_strong_number (fun _ => (aOne rI)) rI
section
variable {P : Program} {w : World} {K : PySem.W.Frag} {mg : Str → Option Value} {base : Heap}
theorem g_strong_number (T : Tx mg base) (D0 : Dk P w K mg base "primes_of" "primes_of" t_primes_of 4 ["number"] (sp_primes_of K)) (D1 : Dk P w K mg base "halves_of" "halves_of" t_halves_of 1 ["n"] (sp_halves_of K)) (D2 : Dk P w K mg base "twos_in" "twos_in" t_twos_in 1 ["number"] (sp_twos_in K)) (D3 : Dk P w K mg base "common_divisor" "common_divisor" t_common_divisor 1 ["one", "other"] (sp_common_divisor K)) {f : Addr} {fd : FuncData} (F : Fun K "strong_number" "strong_number" t_strong_number f fd) : FnG P w K mg base CX0 5 f fd ["n"] (sp_strong_number K) := by
  obtain ⟨f0, fd0, F0, m0, G0, b0⟩ := D0
  obtain ⟨f1, fd1, F1, m1, G1, b1⟩ := D1
  obtain ⟨f2, fd2, F2, m2, G2, b2⟩ := D2
  obtain ⟨f3, fd3, F3, m3, G3, b3⟩ := D3
  refine okG0 F sc_strong_number (fun vs H Q E h => ?_) (fun cdv A outer s0_ H0 vs Q E hr gd h => ?_)
  · obtain ⟨_, _, _, _, _, _, _, _, ⟨_, rfl, _⟩, _⟩ := h
    rfl
  · obtain ⟨_, p_n, S0, s0, r, s', e0, p0, ⟨_, rfl, rfl⟩, hm0, fin0⟩ := h
    have fin : ∀ v {H' : Hp}, (∃ S', Gm (pt0).M S0 H0 S' H' ∧ PotAt pt0 s' S' H' ∧ rI r v S') → Q v H' := fun v {H'} ⟨S', h1, h2, h3⟩ => fin0 v S' H' h1 h2 h3
    have w0 : Wd pt0 S0 H0 S0 H0 [] := Wd.start e0
    have hm0 : Mir.run (m_strong_number p_n) s0 = some (r, s') := hm0
    unfold m_strong_number at hm0
    have sc := sc_strong_number
    refine ⟨_, pss_cons (ps_setLc (i := 1) (own := [("p", 4), ("k", 10)]) (g := (gTup K 2 (gCons (gName 4) (gCons (gName 10) gNil)))) (tt := tYes) rfl sc.nd rfl rfl (sw_true rfl rfl rfl (by decide +kernel)) (k_pit K (pe_cG G0 (hr.mono (by decide)) gd rfl m0 F0.kp b0 pass0 (pa_cons (pv 0) (pa_nil)))) (blkOk_by (N := ["n", "primes", "v", "step", "p", "s", "d", "found", "part", "power", "k"]) (sc := defScope t_strong_number) (by decide +kernel)) (fun _ _ _ _ _ => k_gt K (pgs_cons (pg_name (i := 4) sc.nd rfl (by first | exact Or.inl rfl | exact Or.inr rfl)) (pgs_cons (pg_name (i := 10) sc.nd rfl (by first | exact Or.inl rfl | exact Or.inr rfl)) (pgs_nil)))) (fun _ _ _ _ _ => pts_nil) (fun _ _ _ _ _ => pv 4)) (pss_cons (ps_asg (pe_cG G1 (hr.mono (by decide)) gd rfl m1 F1.kp b1 pass0 (pa_cons (pv 0) (pa_nil))) (k_gt K (pgs_cons (pg_name (i := 5) sc.nd rfl (by first | exact Or.inl rfl | exact Or.inr rfl)) (pgs_cons (pg_name (i := 6) sc.nd rfl (by first | exact Or.inl rfl | exact Or.inr rfl)) (pgs_nil))))) (pss_cons (ps_set (i := 2) sc.nd rfl (by first | exact Or.inl rfl | exact Or.inr rfl) (pe_callB (k_min K) (by rfl) T.n_min (by decide +kernel) (pa_cons (pe_lc (own := [("p", 4)]) (g := (gName 4)) (tt := tYes) rfl sc.nd (k_pil K (pv 1)) (blkOk_by (N := ["n", "primes", "v", "step", "p", "s", "d", "found", "part", "power", "k"]) (sc := defScope t_strong_number) (by decide +kernel)) (fun _ _ _ _ _ => pg_name (i := 4) sc.nd rfl (by first | exact Or.inl rfl | exact Or.inr rfl)) (fun _ _ _ _ _ => pts_nil) (fun _ _ _ _ _ => pe_cG G2 (hr.mono (by decide)) gd rfl m2 F2.kp b2 pass0 (pa_cons (pe_op op_sub (pv 4) (pe_int)) (pa_nil)))) pa_nil))) (pss_cons (ps_asg (pe_tup (pa_cons (pe_int) (pa_cons (pe_int) (pa_cons (pe_int) (pa_nil))))) (k_gt K (pgs_cons (pg_name (i := 7) sc.nd rfl (by first | exact Or.inl rfl | exact Or.inr rfl)) (pgs_cons (pg_name (i := 8) sc.nd rfl (by first | exact Or.inl rfl | exact Or.inr rfl)) (pgs_cons (pg_name (i := 9) sc.nd rfl (by first | exact Or.inl rfl | exact Or.inr rfl)) (pgs_nil)))))) (pss_cons (ps_for PassesOwn.never rfl (pi_range1 rfl T.n_range (pa_cons (pv 2) pa_nil)) (pg_name (i := 3) sc.nd rfl (by first | exact Or.inl rfl | exact Or.inr rfl)) (pss_cons (ps_set (i := 8) sc.nd rfl (by first | exact Or.inl rfl | exact Or.inr rfl) (pe_op op_add (pv 8) (pv 9))) (pss_cons (ps_for PassesOwn.never rfl (k_pil K (pv 1)) (pg_name (i := 4) sc.nd rfl (by first | exact Or.inl rfl | exact Or.inr rfl)) (pss_cons (ps_set (i := 9) sc.nd rfl (by first | exact Or.inl rfl | exact Or.inr rfl) (pe_op op_mulX (pe_int) (pv 9))) (pss_nil))) (pss_nil)))) (pss_cons (ps_for PassesOwn.never rfl (k_pil K (pv 1)) (pg_name (i := 4) sc.nd rfl (by first | exact Or.inl rfl | exact Or.inr rfl)) (pss_cons (ps_set (i := 7) sc.nd rfl (by first | exact Or.inl rfl | exact Or.inr rfl) (pe_op op_mulX (pv 7) (pe_cG G3 (hr.mono (by decide)) gd rfl m3 F3.kp b3 pass0 (pa_cons (pv 6) (pa_cons (pe_op op_sub (pv 4) (pe_int)) (pa_nil)))))) (pss_nil))) (pss_cons (ps_ret (pe_op op_mulX (pv 7) (pe_op op_add (pe_int) (pv 8)))) (pss_nil))))))), ?_⟩
    refine q_set (fun v => [some (.int p_n), some v, none, none, none, none, none, none, none, none, none]) (fun _ => rfl) w0 p0 (EvL.frz (l_lc1T (vs := [4, 10]) (f := (fun x1 => x1.1)) (R' := rI) (i_T (Ev.eta (e_call (E := E0) (fm := fm_primes_of) (R := (rT K (aAll (rT K (aCons rI (aOne rI)))))) (a_one (e_var (R := rI) rfl rfl))))) ownOk0 (g_tp (gq_cons (g_nm (R := rI)) (gq_one (g_nm (R := rI))))) (fun x σ' S hp => by obtain ⟨_, ⟨_, rfl, _⟩, ⟨_, rfl, _⟩⟩ := hp; rfl) (fun x1 σ' S1 H1 g2 hp => by have w3 := w0.go g2; obtain ⟨_, ⟨_, rfl, rfl⟩, ⟨_, rfl, rfl⟩⟩ := hp; exact (e_var (R := rI) rfl rfl)) (pm_cons pm_nm pm_nm))) hm0 ?_
    intro primes4 vprimes12 S5 H6 s7 w8 p9 g11 rprimes13 hm10
    refine q_unp w8 p9 (Ev.eta (e_call (E := E0) (fm := fm_halves_of) (R := (rT K (aCons rI (aOne rI)))) (a_one (e_var (R := rI) rfl rfl)))) (g_tp (gq_cons (g_nm (R := rI)) (gq_one (g_nm (R := rI))))) hm10 ?_
    intro t14 σ22 S15 H16 s17 w18 p19 g21 hp hm20
    have rprimes13 := Mo.mo g21.s rprimes13
    obtain ⟨_, ⟨_, rfl, rfl⟩, ⟨_, rfl, rfl⟩⟩ := hp
    refine q_set (fun v => [some (.int p_n), some vprimes12, some v, none, none, some (.int t14.1), some (.int t14.2), none, none, none, none]) (fun _ => rfl) w18 p19 (c_min (EvL.rd (l_lc1 (γ := Int) (vs := [4]) (me := fun x23 k => Mir.lft (m_twos_in (x23 - (1 : Int))) >>= fun r26 => k r26) (R' := rI) (i_L (K := K) (e_var rfl rprimes13)) ownOk0 (g_nm (R := rI)) (fun x σ' S hp => by obtain ⟨_, rfl, _⟩ := hp; rfl) (fun x23 σ' S1 H1 g24 hp => by have w25 := w18.go g24; obtain ⟨_, rfl, rfl⟩ := hp; have rprimes13 := Mo.mo g24.s rprimes13; exact (Ev.eta (e_call (E := E0) (fm := fm_twos_in) (R := rI) (a_one (e_sub (e_var (R := rI) rfl rfl) e_cI))))) pm_nm))) hm20 ?_
    intro v28 vv36 S29 H30 s31 w32 p33 g35 rv37 hm34
    cases (show vv36 = .int v28 from rv37)
    have rprimes13 := Mo.mo g35.s rprimes13
    refine tup3_go ?_
    refine x_ev w32 p33 e_cI hm34 ?_
    intro found38 vfound46 S39 H40 s41 w42 p43 g45 rfound47 hm44
    cases (show vfound46 = .int found38 from rfound47)
    have rprimes13 := Mo.mo g45.s rprimes13
    refine x_ev w42 p43 e_cI hm44 ?_
    intro part48 vpart56 S49 H50 s51 w52 p53 g55 rpart57 hm54
    cases (show vpart56 = .int part48 from rpart57)
    have rprimes13 := Mo.mo g55.s rprimes13
    refine x_ev w52 p53 e_cI hm54 ?_
    intro power58 vpower66 S59 H60 s61 w62 p63 g65 rpower67 hm64
    cases (show vpower66 = .int power58 from rpower67)
    have rprimes13 := Mo.mo g65.s rprimes13
    refine tup_end (is := [7, 8, 9]) [some (.int p_n), some vprimes12, some (.int v28), none, none, some (.int t14.1), some (.int t14.2), some (.int found38), some (.int part48), some (.int power58), none] w62 p63 rfl (by simp) rfl ?_
    intro S68 H69 w70 p71 g72
    have rprimes13 := Mo.mo g72.s rprimes13
    refine q_for (p := pt0) w70 p71 (i_R1 (e_var (R := rI) rfl rfl)) (g_nm (R := rI)) hm64 (fun Sb74 st73 σ S' H' s' => Ex Sb74 S' ∧ (∃ (xstep_ : Option V) (xp_ : Option V), σ = [some (.int p_n), some vprimes12, some (.int v28), xstep_, xp_, some (.int t14.1), some (.int t14.2), some (.int found38), some (.int st73.1), some (.int st73.2), none] ∧ Wd pt0 S0 H0 S' H' [] ∧ PotAt pt0 s' S' H' ∧ Ex S68 S')) ?_ ?_ ?_ ?_ ?_
    · intro S76 H77 s78 w79 p80 g81
      have rprimes13 := Mo.mo g81.s rprimes13
      exact ⟨Ex.rf, ⟨_, _, rfl, w79, p80, g81.s⟩⟩
    · rintro Sb74 st73 _ S87 H88 s89 ⟨ex90, ⟨xstep82, xp83, rfl, w84, p85, eb86⟩⟩
      exact ⟨ex90, w84.i, p85, ownOk0⟩
    · rintro Sb74 st73 _ S96 H97 s98 S99 H100 ⟨ex102, ⟨xstep91, xp92, rfl, w93, p94, eb95⟩⟩ g101
      exact ⟨ex102.tr g101.s, _, _, rfl, w93.go (Gm.up g101), PotAt.go p94 g101, eb95.tr g101.s⟩
    · rintro Sb74 x75 st73 _ σ116 S108 H109 s110 st73_ s2_ D_ ⟨ex115, ⟨xstep103, xp104, rfl, w105, p106, eb107⟩⟩ hp hm111 nx112
      obtain ⟨_, rfl, rfl⟩ := hp
      have rprimes13 := Mo.mo eb107 rprimes13
      refine q_set (fun v => [some (.int p_n), some vprimes12, some (.int v28), some (.int x75), xp104, some (.int t14.1), some (.int t14.2), some (.int found38), some v, some (.int st73.2), none]) (fun _ => rfl) w105 p106 (e_add (e_var (R := rI) rfl rfl) (e_var (R := rI) rfl rfl)) hm111 ?_
      intro part117 vpart125 S118 H119 s120 w121 p122 g124 rpart126 hm123
      cases (show vpart125 = .int part117 from rpart126)
      have rprimes13 := Mo.mo g124.s rprimes13
      have eb107 := eb107.tr g124.s
      have ex115 := ex115.tr g124.s
      refine q_for (p := pt0) w121 p122 (i_L (K := K) (e_var rfl rprimes13)) (g_nm (R := rI)) hm123 (fun Sb128 st127 σ S' H' s' => Ex Sb128 S' ∧ (∃ (xp_ : Option V), σ = [some (.int p_n), some vprimes12, some (.int v28), some (.int x75), xp_, some (.int t14.1), some (.int t14.2), some (.int found38), some (.int part117), some (.int st127), none] ∧ Wd pt0 S0 H0 S' H' [] ∧ PotAt pt0 s' S' H' ∧ Ex S118 S')) ?_ ?_ ?_ ?_ ?_
      · intro S130 H131 s132 w133 p134 g135
        have rprimes13 := Mo.mo g135.s rprimes13
        have eb107 := eb107.tr g135.s
        have ex115 := ex115.tr g135.s
        exact ⟨Ex.rf, ⟨_, rfl, w133, p134, g135.s⟩⟩
      · rintro Sb128 st127 _ S140 H141 s142 ⟨ex143, ⟨xp136, rfl, w137, p138, eb139⟩⟩
        exact ⟨ex143, w137.i, p138, ownOk0⟩
      · rintro Sb128 st127 _ S148 H149 s150 S151 H152 ⟨ex154, ⟨xp144, rfl, w145, p146, eb147⟩⟩ g153
        exact ⟨ex154.tr g153.s, _, rfl, w145.go (Gm.up g153), PotAt.go p146 g153, eb147.tr g153.s⟩
      · rintro Sb128 x129 st127 _ σ167 S159 H160 s161 st127_ s2_ D_ ⟨ex166, ⟨xp155, rfl, w156, p157, eb158⟩⟩ hp hm162 nx163
        obtain ⟨_, rfl, rfl⟩ := hp
        have rprimes13 := Mo.mo eb158 rprimes13
        have eb107 := eb107.tr eb158
        have ex115 := ex115.tr eb158
        refine q_set (fun v => [some (.int p_n), some vprimes12, some (.int v28), some (.int x75), some (.int x129), some (.int t14.1), some (.int t14.2), some (.int found38), some (.int part117), some v, none]) (fun _ => rfl) w156 p157 (e_mul e_cI (e_var (R := rI) rfl rfl)) hm162 ?_
        intro power168 vpower176 S169 H170 s171 w172 p173 g175 rpower177 hm174
        cases (show vpower176 = .int power168 from rpower177)
        have rprimes13 := Mo.mo g175.s rprimes13
        have eb107 := eb107.tr g175.s
        have ex115 := ex115.tr g175.s
        have eb158 := eb158.tr g175.s
        have ex166 := ex166.tr g175.s
        cases run_of_pure hm174
        exact (nx163 _ _ _ ⟨ex166, ⟨_, rfl, w172, p173, eb158⟩⟩).1
      · rintro Sb128 st127 _ S182 H183 s184 ⟨_, ⟨xp178, rfl, w179, p180, eb181⟩⟩ hm185
        have rprimes13 := Mo.mo eb181 rprimes13
        have eb107 := eb107.tr eb181
        have ex115 := ex115.tr eb181
        cases run_of_pure hm185
        exact (nx112 _ _ _ ⟨ex115, ⟨_, _, rfl, w179, p180, eb107⟩⟩).1
    · rintro Sb74 st73 _ S191 H192 s193 ⟨_, ⟨xstep186, xp187, rfl, w188, p189, eb190⟩⟩ hm194
      have rprimes13 := Mo.mo eb190 rprimes13
      refine q_for (p := pt0) w188 p189 (i_L (K := K) (e_var rfl rprimes13)) (g_nm (R := rI)) hm194 (fun Sb196 st195 σ S' H' s' => Ex Sb196 S' ∧ (∃ (xp_ : Option V), σ = [some (.int p_n), some vprimes12, some (.int v28), xstep186, xp_, some (.int t14.1), some (.int t14.2), some (.int st195), some (.int st73.1), some (.int st73.2), none] ∧ Wd pt0 S0 H0 S' H' [] ∧ PotAt pt0 s' S' H' ∧ Ex S191 S')) ?_ ?_ ?_ ?_ ?_
      · intro S198 H199 s200 w201 p202 g203
        have rprimes13 := Mo.mo g203.s rprimes13
        exact ⟨Ex.rf, ⟨_, rfl, w201, p202, g203.s⟩⟩
      · rintro Sb196 st195 _ S208 H209 s210 ⟨ex211, ⟨xp204, rfl, w205, p206, eb207⟩⟩
        exact ⟨ex211, w205.i, p206, ownOk0⟩
      · rintro Sb196 st195 _ S216 H217 s218 S219 H220 ⟨ex222, ⟨xp212, rfl, w213, p214, eb215⟩⟩ g221
        exact ⟨ex222.tr g221.s, _, rfl, w213.go (Gm.up g221), PotAt.go p214 g221, eb215.tr g221.s⟩
      · rintro Sb196 x197 st195 _ σ235 S227 H228 s229 st195_ s2_ D_ ⟨ex234, ⟨xp223, rfl, w224, p225, eb226⟩⟩ hp hm230 nx231
        obtain ⟨_, rfl, rfl⟩ := hp
        have rprimes13 := Mo.mo eb226 rprimes13
        refine q_set (fun v => [some (.int p_n), some vprimes12, some (.int v28), xstep186, some (.int x197), some (.int t14.1), some (.int t14.2), some v, some (.int st73.1), some (.int st73.2), none]) (fun _ => rfl) w224 p225 (e_mul (e_var (R := rI) rfl rfl) (Ev.eta (e_call (E := E0) (fm := fm_common_divisor) (R := rI) (a_cons (e_var (R := rI) rfl rfl) (a_one (e_sub (e_var (R := rI) rfl rfl) e_cI)))))) hm230 ?_
        intro found236 vfound244 S237 H238 s239 w240 p241 g243 rfound245 hm242
        cases (show vfound244 = .int found236 from rfound245)
        have rprimes13 := Mo.mo g243.s rprimes13
        have eb226 := eb226.tr g243.s
        have ex234 := ex234.tr g243.s
        cases run_of_pure hm242
        exact (nx231 _ _ _ ⟨ex234, ⟨_, rfl, w240, p241, eb226⟩⟩).1
      · rintro Sb196 st195 _ S251 H252 s253 ⟨_, ⟨xp247, rfl, w248, p249, eb250⟩⟩ hm254
        have rprimes13 := Mo.mo eb250 rprimes13
        refine q_ret w248 p249 (e_mul (e_var (R := rI) rfl rfl) (e_add e_cI (e_var (R := rI) rfl rfl))) hm254 ?_
        intro r262 v263 S255 H256 s257 w258 p259 g261 rr264 hm260
        cases run_of_pure hm260
        exact fin _ ⟨S255, w258.g, p259, rr264⟩
end
abbrev t_is_as_prime : Stmt := top 24
theorem sc_is_as_prime : FnScope ["n", "parting", "p", "k"] ["n"] (defScope t_is_as_prime) := ⟨rfl, rfl, rfl, by decide +kernel, rfl, by decide +kernel, by decide +kernel⟩
@[irreducible] noncomputable def m_is_as_prime (p_n : Int) : Option Bool :=
Mir.lft (m_primes_of p_n) >>= fun r51 => bnd r51 fun parting1 =>
if (decide ((List.length parting1 : Int) < (2 : Int))) = true then
(bnd false fun r25 => pure r25)
else
(Mir.lft (grd (List.length parting1 ≤ 16000000)) >>= fun _ => cmp parting1 (fun x35 => (if (decide (x35.2 = (1 : Int))) = true then Mir.lft (grd (0 < (x35.1 - (1 : Int)))) >>= fun _ => pure (decide (((p_n - (1 : Int)) % (x35.1 - (1 : Int))) = (0 : Int))) else pure false) >>= fun b39 => pure (some b39)) >>= fun l50 => bnd (List.all l50 id) fun r47 => pure r47)
noncomputable abbrev fm_is_as_prime : (Int) → Option Bool := fun a => m_is_as_prime a
abbrev sp_is_as_prime (K : PySem.W.Frag) : Sp := spV F0 fm_is_as_prime (fun _ => (aOne rI)) rB
section
variable {P : Program} {w : World} {K : PySem.W.Frag} {mg : Str → Option Value} {base : Heap}
theorem g_is_as_prime (T : Tx mg base) (D0 : Dk P w K mg base "primes_of" "primes_of" t_primes_of 4 ["number"] (sp_primes_of K)) {f : Addr} {fd : FuncData} (F : Fun K "is_as_prime" "is_as_prime" t_is_as_prime f fd) : FnG P w K mg base CX0 5 f fd ["n"] (sp_is_as_prime K) := by
  obtain ⟨f0, fd0, F0, m0, G0, b0⟩ := D0
  refine okG0 F sc_is_as_prime (fun vs H Q E h => ?_) (fun cdv A outer s0_ H0 vs Q E hr gd h => ?_)
  · obtain ⟨_, _, _, _, _, _, _, _, ⟨_, rfl, _⟩, _⟩ := h
    rfl
  · obtain ⟨_, p_n, S0, s0, r, s', e0, p0, ⟨_, rfl, rfl⟩, hm0, fin0⟩ := h
    have fin : ∀ v {H' : Hp}, (∃ S', Gm (pt0).M S0 H0 S' H' ∧ PotAt pt0 s' S' H' ∧ rB r v S') → Q v H' := fun v {H'} ⟨S', h1, h2, h3⟩ => fin0 v S' H' h1 h2 h3
    have w0 : Wd pt0 S0 H0 S0 H0 [] := Wd.start e0
    have hm0 : Mir.run (m_is_as_prime p_n) s0 = some (r, s') := hm0
    unfold m_is_as_prime at hm0
    have sc := sc_is_as_prime
    refine ⟨_, pss_cons (ps_set (i := 1) sc.nd rfl (by first | exact Or.inl rfl | exact Or.inr rfl) (pe_cG G0 (hr.mono (by decide)) gd rfl m0 F0.kp b0 pass0 (pa_cons (pv 0) (pa_nil)))) (pss_cons (ps_if (pt_cmpR op_lt (pe_callB (k_len K) (by rfl) T.n_len (by decide +kernel) (pa_cons (pv 1) pa_nil)) (pe_int) (nomark _)) (pss_cons (ps_ret (pe_bl)) (pss_nil)) (pss_nil)) (pss_cons (ps_ret (pe_callB (k_all K) (by rfl) T.n_all (by decide +kernel) (pa_cons (pe_lc (own := [("p", 2), ("k", 3)]) (g := (gTup K 2 (gCons (gName 2) (gCons (gName 3) gNil)))) (tt := tYes) rfl sc.nd (k_pit K (pv 1)) (blkOk_by (N := ["n", "parting", "p", "k"]) (sc := defScope t_is_as_prime) (by decide +kernel)) (fun _ _ _ _ _ => k_gt K (pgs_cons (pg_name (i := 2) sc.nd rfl (by first | exact Or.inl rfl | exact Or.inr rfl)) (pgs_cons (pg_name (i := 3) sc.nd rfl (by first | exact Or.inl rfl | exact Or.inr rfl)) (pgs_nil)))) (fun _ _ _ _ _ => pts_nil) (fun _ _ _ _ _ => pe_and (pe_cmpR op_eq (pv 3) (pe_int) (nomark _)) (pe_one (pe_cmpR op_eq (pe_op op_mod (pe_op op_sub (pv 0) (pe_int)) (pe_op op_sub (pv 2) (pe_int))) (pe_int) (nomark _))))) pa_nil))) (pss_nil))), ?_⟩
    refine q_set (fun v => [some (.int p_n), some v, none, none]) (fun _ => rfl) w0 p0 (Ev.eta (e_call (E := E0) (fm := fm_primes_of) (R := (rT K (aAll (rT K (aCons rI (aOne rI)))))) (a_one (e_var (R := rI) rfl rfl)))) hm0 ?_
    intro parting1 vparting9 S2 H3 s4 w5 p6 g8 rparting10 hm7
    refine q_if w5 p6 (t_Test (e_lt (c_lenT (e_var rfl rparting10)) e_cI)) hm7 ?_ ?_
    · intro S11 H12 s13 w14 p15 g16 hm17
      have rparting10 := Mo.mo g16.s rparting10
      refine q_ret w14 p15 e_cB hm17 ?_
      intro r25 v26 S18 H19 s20 w21 p22 g24 rr27 hm23
      cases run_of_pure hm23
      exact fin _ ⟨S18, w21.g, p22, rr27⟩
    · intro S28 H29 s30 w31 p32 g33 hm34
      have rparting10 := Mo.mo g33.s rparting10
      refine nx_done ?_
      refine q_ret w31 p32 (c_all (EvL.rd (l_lc1 (γ := Bool) (vs := [2, 3]) (me := fun x35 k => (if (decide (x35.2 = (1 : Int))) = true then Mir.lft (grd (0 < (x35.1 - (1 : Int)))) >>= fun _ => pure (decide (((p_n - (1 : Int)) % (x35.1 - (1 : Int))) = (0 : Int))) else pure false) >>= fun b38 => k b38) (R' := rB) (i_T (e_var rfl rparting10)) ownOk0 (g_tp (gq_cons (g_nm (R := rI)) (gq_one (g_nm (R := rI))))) (fun x σ' S hp => by obtain ⟨_, ⟨_, rfl, _⟩, ⟨_, rfl, _⟩⟩ := hp; rfl) (fun x35 σ' S1 H1 g36 hp => by have w37 := w31.go g36; obtain ⟨_, ⟨_, rfl, rfl⟩, ⟨_, rfl, rfl⟩⟩ := hp; have rparting10 := Mo.mo g36.s rparting10; exact (e_and (e_eq (e_var (R := rI) rfl rfl) e_cI) (e_eq (e_mod (e_sub (e_var (R := rI) rfl rfl) e_cI) (e_sub (e_var (R := rI) rfl rfl) e_cI)) e_cI))) (pm_cons pm_nm pm_nm)))) hm34 ?_
      intro r47 v48 S40 H41 s42 w43 p44 g46 rr49 hm45
      cases run_of_pure hm45
      exact fin _ ⟨S40, w43.g, p44, rr49⟩
end
abbrev t_as_primes_to : Stmt := top 25
theorem sc_as_primes_to : FnScope ["most", "n"] ["most"] (defScope t_as_primes_to) := ⟨rfl, rfl, rfl, by decide +kernel, rfl, by decide +kernel, by decide +kernel⟩
@[irreducible] noncomputable def m_as_primes_to (p_most : Int) : Option (List Int) :=
Mir.lft (grd (Rg3 (3 : Int) (p_most + (1 : Int)) (2 : Int))) >>= fun _ => Mir.lft (grd (List.length (rng3 (3 : Int) (p_most + (1 : Int)) (2 : Int)) ≤ 16000000)) >>= fun _ => cmp (rng3 (3 : Int) (p_most + (1 : Int)) (2 : Int)) (fun x1 => Mir.lft (m_power_rest (2 : Int) x1 x1) >>= fun r5 => (if (decide (r5 = (2 : Int))) = true then Mir.lft (m_is_as_prime x1) >>= fun r6 => pure r6 else pure false) >>= fun b4 => if b4 = true then pure (some x1) else pure none) >>= fun l20 => bnd l20 fun r17 => pure r17
noncomputable abbrev fm_as_primes_to : (Int) → Option (List Int) := fun a => m_as_primes_to a
abbrev sp_as_primes_to (K : PySem.W.Frag) : Sp := spV F0 fm_as_primes_to (fun _ => (aOne rI)) (rT K (aAll rI))
section
variable {P : Program} {w : World} {K : PySem.W.Frag} {mg : Str → Option Value} {base : Heap}
theorem g_as_primes_to (T : Tx mg base) (D0 : Dk P w K mg base "power_rest" "power_rest" t_power_rest 1 ["number", "e", "n"] (sp_power_rest K)) (D1 : Dk P w K mg base "is_as_prime" "is_as_prime" t_is_as_prime 5 ["n"] (sp_is_as_prime K)) {f : Addr} {fd : FuncData} (F : Fun K "as_primes_to" "as_primes_to" t_as_primes_to f fd) : FnG P w K mg base CX0 6 f fd ["most"] (sp_as_primes_to K) := by
  obtain ⟨f0, fd0, F0, m0, G0, b0⟩ := D0
  obtain ⟨f1, fd1, F1, m1, G1, b1⟩ := D1
  refine okG0 F sc_as_primes_to (fun vs H Q E h => ?_) (fun cdv A outer s0_ H0 vs Q E hr gd h => ?_)
  · obtain ⟨_, _, _, _, _, _, _, _, ⟨_, rfl, _⟩, _⟩ := h
    rfl
  · obtain ⟨_, p_most, S0, s0, r, s', e0, p0, ⟨_, rfl, rfl⟩, hm0, fin0⟩ := h
    have fin : ∀ v {H' : Hp}, (∃ S', Gm (pt0).M S0 H0 S' H' ∧ PotAt pt0 s' S' H' ∧ (rT K (aAll rI)) r v S') → Q v H' := fun v {H'} ⟨S', h1, h2, h3⟩ => fin0 v S' H' h1 h2 h3
    have w0 : Wd pt0 S0 H0 S0 H0 [] := Wd.start e0
    have hm0 : Mir.run (m_as_primes_to p_most) s0 = some (r, s') := hm0
    unfold m_as_primes_to at hm0
    have sc := sc_as_primes_to
    refine ⟨_, pss_cons (ps_ret (pe_callTy (k_tupOf K) (by rfl) T.n_tuple (by decide +kernel) (pa_cons (pe_lc (own := [("n", 1)]) (g := (gName 1)) rfl sc.nd (pi_range3 rfl T.n_range (pa_cons (pe_int) (pa_cons (pe_op op_add (pv 0) (pe_int)) (pa_cons (pe_int) pa_nil)))) (blkOk_by (N := ["most", "n"]) (sc := defScope t_as_primes_to) (by decide +kernel)) (fun _ _ _ _ _ => pg_name (i := 1) sc.nd rfl (by first | exact Or.inl rfl | exact Or.inr rfl)) (fun _ _ _ _ _ => pts_one (PW.pt (pw_and (pt_cmpR op_eq (pe_cG G0 (hr.mono (by decide)) gd rfl m0 F0.kp b0 pass0 (pa_cons (pe_int) (pa_cons (pv 1) (pa_cons (pv 1) (pa_nil))))) (pe_int) (nomark _)) (pw_and1 (pt_val (pe_cG G1 (hr.mono (by decide)) gd rfl m1 F1.kp b1 pass0 (pa_cons (pv 1) (pa_nil)))))))) (fun _ _ _ _ _ => pv 1)) pa_nil))) (pss_nil), ?_⟩
    refine q_ret w0 p0 (c_tup (K := K) (EvL.rd (l_lc (γ := Int) (vs := [1]) (mt := fun x1 k => Mir.lft (m_power_rest (2 : Int) x1 x1) >>= fun r8 => (if (decide (r8 = (2 : Int))) = true then Mir.lft (m_is_as_prime x1) >>= fun r9 => pure r9 else pure false) >>= fun b7 => k b7) (me := fun x1 k => k x1) (R' := rI) (i_R3 e_cI (e_add (e_var (R := rI) rfl rfl) e_cI) e_cI) ownOk0 (g_nm (R := rI)) (fun x σ' S hp => by obtain ⟨_, rfl, _⟩ := hp; rfl) (fun x1 σ' S1 H1 g2 hp => by have w3 := w0.go g2; obtain ⟨_, rfl, rfl⟩ := hp; exact (t_and (t_Test (e_eq (Ev.eta (e_call (E := E0) (fm := fm_power_rest) (R := rI) (a_cons e_cI (a_cons (e_var (R := rI) rfl rfl) (a_one (e_var (R := rI) rfl rfl)))))) e_cI)) (t_B (Ev.eta (e_call (E := E0) (fm := fm_is_as_prime) (R := rB) (a_one (e_var (R := rI) rfl rfl))))))) (fun x1 σ' S1 H1 g2 hp => by have w3 := w0.go g2; obtain ⟨_, rfl, rfl⟩ := hp; exact (e_var (R := rI) rfl rfl)) pm_nm))) hm0 ?_
    intro r17 v18 S10 H11 s12 w13 p14 g16 rr19 hm15
    cases run_of_pure hm15
    exact fin _ ⟨S10, w13.g, p14, rr19⟩
end
abbrev t_three_factors : Stmt := top 26
theorem sc_three_factors : FnScope ["k"] ["k"] (defScope t_three_factors) := ⟨rfl, rfl, rfl, by decide +kernel, rfl, by decide +kernel, by decide +kernel⟩
@[irreducible] noncomputable def m_three_factors (p_k : Int) : Option (Int × Int × Int) :=
Mir.lft (grd (Sm (6 : Int) ∧ Sm p_k)) >>= fun _ => Mir.lft (grd (Sm (12 : Int) ∧ Sm p_k)) >>= fun _ => Mir.lft (grd (Sm (18 : Int) ∧ Sm p_k)) >>= fun _ => bnd ((((6 : Int) * p_k) + (1 : Int)), (((12 : Int) * p_k) + (1 : Int)), (((18 : Int) * p_k) + (1 : Int))) fun r8 => pure r8
noncomputable abbrev fm_three_factors : (Int) → Option (Int × Int × Int) := fun a => m_three_factors a
abbrev sp_three_factors (K : PySem.W.Frag) : Sp := spV F0 fm_three_factors (fun _ => (aOne rI)) (rT K (aCons rI (aCons rI (aOne rI))))
section
variable {P : Program} {w : World} {K : PySem.W.Frag} {mg : Str → Option Value} {base : Heap}
theorem g_three_factors (T : Tx mg base)  {f : Addr} {fd : FuncData} (F : Fun K "three_factors" "three_factors" t_three_factors f fd) : FnG P w K mg base CX0 1 f fd ["k"] (sp_three_factors K) := by
  refine okG0 F sc_three_factors (fun vs H Q E h => ?_) (fun cdv A outer s0_ H0 vs Q E hr gd h => ?_)
  · obtain ⟨_, _, _, _, _, _, _, _, ⟨_, rfl, _⟩, _⟩ := h
    rfl
  · obtain ⟨_, p_k, S0, s0, r, s', e0, p0, ⟨_, rfl, rfl⟩, hm0, fin0⟩ := h
    have fin : ∀ v {H' : Hp}, (∃ S', Gm (pt0).M S0 H0 S' H' ∧ PotAt pt0 s' S' H' ∧ (rT K (aCons rI (aCons rI (aOne rI)))) r v S') → Q v H' := fun v {H'} ⟨S', h1, h2, h3⟩ => fin0 v S' H' h1 h2 h3
    have w0 : Wd pt0 S0 H0 S0 H0 [] := Wd.start e0
    have hm0 : Mir.run (m_three_factors p_k) s0 = some (r, s') := hm0
    unfold m_three_factors at hm0
    have sc := sc_three_factors
    refine ⟨_, pss_cons (ps_ret (pe_tup (pa_cons (pe_op op_add (pe_op op_mulX (pe_int) (pv 0)) (pe_int)) (pa_cons (pe_op op_add (pe_op op_mulX (pe_int) (pv 0)) (pe_int)) (pa_cons (pe_op op_add (pe_op op_mulX (pe_int) (pv 0)) (pe_int)) (pa_nil)))))) (pss_nil), ?_⟩
    refine q_ret w0 p0 (e_tup (K := K) (a_cons (e_add (e_mul e_cI (e_var (R := rI) rfl rfl)) e_cI) (a_cons (e_add (e_mul e_cI (e_var (R := rI) rfl rfl)) e_cI) (a_one (e_add (e_mul e_cI (e_var (R := rI) rfl rfl)) e_cI)))) (arN_cons (arN_cons arN_one)) (by decide)) hm0 ?_
    intro r8 v9 S1 H2 s3 w4 p5 g7 rr10 hm6
    cases run_of_pure hm6
    exact fin _ ⟨S1, w4.g, p5, rr10⟩
end
abbrev t_power_of : Stmt := top 28
theorem sc_power_of : FnScope ["number", "k", "found", "step"] ["number", "k"] (defScope t_power_of) := ⟨rfl, rfl, rfl, by decide +kernel, rfl, by decide +kernel, by decide +kernel⟩
@[irreducible] noncomputable def m_power_of (p_number : Int) (p_k : Int) : Option Int :=
bnd (1 : Int) fun found1 =>
Mir.lft (grd (RgB p_k)) >>= fun _ => (lpS (rng 0 p_k) (fun (x13 : Int) (st11 : Int) =>
Mir.lft (grd (Sm st11 ∧ Sm p_number)) >>= fun _ => bnd (st11 * p_number) fun found52 =>
pure found52) found1) >>= fun (st11 : Int) =>
bnd st11 fun r77 => pure r77
noncomputable abbrev fm_power_of : (Int × Int) → Option Int := fun (a0, a1) => m_power_of a0 a1
abbrev sp_power_of (K : PySem.W.Frag) : Sp := spV F0 fm_power_of (fun _ => (aCons rI (aOne rI))) rI
section
variable {P : Program} {w : World} {K : PySem.W.Frag} {mg : Str → Option Value} {base : Heap}
theorem g_power_of (T : Tx mg base)  {f : Addr} {fd : FuncData} (F : Fun K "power_of" "power_of" t_power_of f fd) : FnG P w K mg base CX0 1 f fd ["number", "k"] (sp_power_of K) := by
  refine okG0 F sc_power_of (fun vs H Q E h => ?_) (fun cdv A outer s0_ H0 vs Q E hr gd h => ?_)
  · obtain ⟨_, _, _, _, _, _, _, _, ⟨_, _, rfl, _, ⟨_, rfl, _⟩⟩, _⟩ := h
    rfl
  · obtain ⟨_, a, S0, s0, r, s', e0, p0, ⟨_, _, rfl, rfl, ⟨_, rfl, rfl⟩⟩, hm0, fin0⟩ := h
    obtain ⟨p_number, p_k⟩ := a
    have fin : ∀ v {H' : Hp}, (∃ S', Gm (pt0).M S0 H0 S' H' ∧ PotAt pt0 s' S' H' ∧ rI r v S') → Q v H' := fun v {H'} ⟨S', h1, h2, h3⟩ => fin0 v S' H' h1 h2 h3
    have w0 : Wd pt0 S0 H0 S0 H0 [] := Wd.start e0
    have hm0 : Mir.run (m_power_of p_number p_k) s0 = some (r, s') := hm0
    unfold m_power_of at hm0
    have sc := sc_power_of
    refine ⟨_, pss_cons (ps_set (i := 2) sc.nd rfl (by first | exact Or.inl rfl | exact Or.inr rfl) (pe_int)) (pss_cons (ps_for PassesOwn.never rfl (pi_range1 rfl T.n_range (pa_cons (pv 1) pa_nil)) (pg_name (i := 3) sc.nd rfl (by first | exact Or.inl rfl | exact Or.inr rfl)) (pss_cons (ps_set (i := 2) sc.nd rfl (by first | exact Or.inl rfl | exact Or.inr rfl) (pe_op op_mulX (pv 2) (pv 0))) (pss_nil))) (pss_cons (ps_ret (pv 2)) (pss_nil))), ?_⟩
    refine q_set (fun v => [some (.int p_number), some (.int p_k), some v, none]) (fun _ => rfl) w0 p0 e_cI hm0 ?_
    intro found1 vfound9 S2 H3 s4 w5 p6 g8 rfound10 hm7
    cases (show vfound9 = .int found1 from rfound10)
    refine q_for (p := pt0) w5 p6 (i_R1 (e_var (R := rI) rfl rfl)) (g_nm (R := rI)) hm7 (fun Sb12 st11 σ S' H' s' => Ex Sb12 S' ∧ (∃ (xstep_ : Option V), σ = [some (.int p_number), some (.int p_k), some (.int st11), xstep_] ∧ Wd pt0 S0 H0 S' H' [] ∧ PotAt pt0 s' S' H' ∧ Ex S2 S')) ?_ ?_ ?_ ?_ ?_
    · intro S14 H15 s16 w17 p18 g19
      exact ⟨Ex.rf, ⟨_, rfl, w17, p18, g19.s⟩⟩
    · rintro Sb12 st11 _ S24 H25 s26 ⟨ex27, ⟨xstep20, rfl, w21, p22, eb23⟩⟩
      exact ⟨ex27, w21.i, p22, ownOk0⟩
    · rintro Sb12 st11 _ S32 H33 s34 S35 H36 ⟨ex38, ⟨xstep28, rfl, w29, p30, eb31⟩⟩ g37
      exact ⟨ex38.tr g37.s, _, rfl, w29.go (Gm.up g37), PotAt.go p30 g37, eb31.tr g37.s⟩
    · rintro Sb12 x13 st11 _ σ51 S43 H44 s45 st11_ s2_ D_ ⟨ex50, ⟨xstep39, rfl, w40, p41, eb42⟩⟩ hp hm46 nx47
      obtain ⟨_, rfl, rfl⟩ := hp
      refine q_set (fun v => [some (.int p_number), some (.int p_k), some v, some (.int x13)]) (fun _ => rfl) w40 p41 (e_mul (e_var (R := rI) rfl rfl) (e_var (R := rI) rfl rfl)) hm46 ?_
      intro found52 vfound60 S53 H54 s55 w56 p57 g59 rfound61 hm58
      cases (show vfound60 = .int found52 from rfound61)
      have eb42 := eb42.tr g59.s
      have ex50 := ex50.tr g59.s
      cases run_of_pure hm58
      exact (nx47 _ _ _ ⟨ex50, ⟨_, rfl, w56, p57, eb42⟩⟩).1
    · rintro Sb12 st11 _ S66 H67 s68 ⟨_, ⟨xstep62, rfl, w63, p64, eb65⟩⟩ hm69
      refine q_ret w63 p64 (e_var (R := rI) rfl rfl) hm69 ?_
      intro r77 v78 S70 H71 s72 w73 p74 g76 rr79 hm75
      cases run_of_pure hm75
      exact fin _ ⟨S70, w73.g, p74, rr79⟩
end
abbrev t_round_lengths : Stmt := top 29
theorem sc_round_lengths : FnScope ["n", "found", "p", "e"] ["n"] (defScope t_round_lengths) := ⟨rfl, rfl, rfl, by decide +kernel, rfl, by decide +kernel, by decide +kernel⟩
@[irreducible] noncomputable def m_round_lengths (p_n : Int) : Option (List Int) :=
Mir.lft (grd (List.length ([] : List Int) ≤ 16000000)) >>= fun _ => bnd ([] : List Int) fun found1 =>
Mir.lft (m_primes_of p_n) >>= fun r124 => (lpS r124 (fun (x14 : (Int × Int)) (st12 : (List Int)) =>
if ((decide ((2 : Int) < x14.1)) || (decide (x14.2 < (3 : Int)))) = true then
(Mir.lft (m_power_of x14.1 (x14.2 - (1 : Int))) >>= fun r82 => Mir.lft (grd (Sm (x14.1 - (1 : Int)) ∧ Sm r82)) >>= fun _ => Mir.lft (grd (List.length st12 < 16000000)) >>= fun _ => bnd (st12 ++ [((x14.1 - (1 : Int)) * r82)]) fun found72 =>
pure found72)
else
(Mir.lft (m_power_of (2 : Int) (x14.2 - (2 : Int))) >>= fun r100 => Mir.lft (grd (List.length ([(2 : Int), r100] : List Int) ≤ 16000000)) >>= fun _ => Mir.lft (grd (List.length st12 + List.length ([(2 : Int), r100] : List Int) ≤ 16000000)) >>= fun _ => bnd (st12 ++ ([(2 : Int), r100] : List Int)) fun found90 =>
pure found90)) found1) >>= fun (st12 : (List Int)) =>
bnd st12 fun r120 => pure r120
noncomputable abbrev fm_round_lengths : (Int) → Option (List Int) := fun a => m_round_lengths a
abbrev sp_round_lengths (K : PySem.W.Frag) : Sp := spN F0 fm_round_lengths (fun _ => (aOne rI)) (aAll rI)
section
variable {P : Program} {w : World} {K : PySem.W.Frag} {mg : Str → Option Value} {base : Heap}
theorem g_round_lengths (T : Tx mg base) (D0 : Dk P w K mg base "primes_of" "primes_of" t_primes_of 4 ["number"] (sp_primes_of K)) (D1 : Dk P w K mg base "power_of" "power_of" t_power_of 1 ["number", "k"] (sp_power_of K)) {f : Addr} {fd : FuncData} (F : Fun K "round_lengths" "round_lengths" t_round_lengths f fd) : FnG P w K mg base CX0 5 f fd ["n"] (sp_round_lengths K) := by
  obtain ⟨f0, fd0, F0, m0, G0, b0⟩ := D0
  obtain ⟨f1, fd1, F1, m1, G1, b1⟩ := D1
  refine okG0 F sc_round_lengths (fun vs H Q E h => ?_) (fun cdv A outer s0_ H0 vs Q E hr gd h => ?_)
  · obtain ⟨_, _, _, _, _, _, _, _, ⟨_, rfl, _⟩, _⟩ := h
    rfl
  · obtain ⟨_, p_n, S0, s0, r, s', e0, p0, ⟨_, rfl, rfl⟩, hm0, fin0⟩ := h
    have fin : ∀ v {H' : Hp}, (∃ S' q us, v = .ref q ∧ Gm (pt0).M S0 H0 S' H' ∧ PotAt pt0 s' S' H' ∧ H0 q = none ∧ H' q = some (.lst us) ∧ S' q = none ∧ (aAll rI) r us S') → Q v H' := fun v {H'} ⟨S', q, us, h0, h1, h2, h3, h4, h5, h6⟩ => by subst h0; exact fin0 q us S' H' h1 h2 h3 h4 h5 h6
    have w0 : Wd pt0 S0 H0 S0 H0 [] := Wd.start e0
    have hm0 : Mir.run (m_round_lengths p_n) s0 = some (r, s') := hm0
    unfold m_round_lengths at hm0
    have sc := sc_round_lengths
    refine ⟨_, pss_cons (ps_set (i := 1) sc.nd rfl (by first | exact Or.inl rfl | exact Or.inr rfl) (pe_lst (pa_nil))) (pss_cons (ps_for PassesOwn.never rfl (k_pit K (pe_cG G0 (hr.mono (by decide)) gd rfl m0 F0.kp b0 pass0 (pa_cons (pv 0) (pa_nil)))) (k_gt K (pgs_cons (pg_name (i := 2) sc.nd rfl (by first | exact Or.inl rfl | exact Or.inr rfl)) (pgs_cons (pg_name (i := 3) sc.nd rfl (by first | exact Or.inl rfl | exact Or.inr rfl)) (pgs_nil)))) (pss_cons (ps_if (PW.pt (pw_or (pt_cmpR op_gt (pv 2) (pe_int) (nomark _)) (pw_or1 (pt_cmpR op_lt (pv 3) (pe_int) (nomark _))))) (pss_cons (ps_expr (pe_bm PySem.F.plainAttrs_list PySem.F.slot_list_append PySem.F.type_list_append mt_append (pv 1) (pa_cons (pe_op op_mulX (pe_op op_sub (pv 2) (pe_int)) (pe_cG G1 (hr.mono (by decide)) gd rfl m1 F1.kp b1 pass0 (pa_cons (pv 2) (pa_cons (pe_op op_sub (pv 3) (pe_int)) (pa_nil))))) pa_nil))) (pss_nil)) (pss_cons (ps_expr (pe_bm PySem.F.plainAttrs_list PySem.F.slot_list_extend PySem.F.type_list_extend mt_extend (pv 1) (pa_cons (pe_lst (pa_cons (pe_int) (pa_cons (pe_cG G1 (hr.mono (by decide)) gd rfl m1 F1.kp b1 pass0 (pa_cons (pe_int) (pa_cons (pe_op op_sub (pv 3) (pe_int)) (pa_nil)))) (pa_nil)))) pa_nil))) (pss_nil))) (pss_nil))) (pss_cons (ps_ret (pv 1)) (pss_nil))), ?_⟩
    refine q_setL (fun v => [some (.int p_n), some v, none, none]) (fun _ => rfl) w0 p0 (l_lstL (a_nilL (R := rI))) hm0 ?_
    intro found1 q9 vs10 S2 H3 s4 w5 p6 g8 rfound11 hm7
    have rfound11 : All rI _ _ _ := rfound11
    refine q_for (p := pt0) w5 p6 (i_T (Ev.eta (e_call (E := E0) (fm := fm_primes_of) (R := (rT K (aAll (rT K (aCons rI (aOne rI)))))) (a_one (e_var (R := rI) rfl rfl))))) (g_tp (gq_cons (g_nm (R := rI)) (gq_one (g_nm (R := rI))))) hm7 (fun Sb13 st12 σ S' H' s' => Ex Sb13 S' ∧ (∃ (qfound_ : Addr) (usfound_ : List V) (xp_ : Option V) (xe_ : Option V), σ = [some (.int p_n), some (.ref qfound_), xp_, xe_] ∧ Wd pt0 S0 H0 S' H' [(qfound_, .lst usfound_)] ∧ PotAt pt0 s' S' H' ∧ Ex S2 S' ∧ All rI S' st12 usfound_)) ?_ ?_ ?_ ?_ ?_
    · intro S15 H16 s17 w18 p19 g20
      have rfound11 := All.mo g20.s rfound11
      exact ⟨Ex.rf, ⟨_, _, _, _, rfl, w18, p19, g20.s, rfound11⟩⟩
    · rintro Sb13 st12 _ S29 H30 s31 ⟨ex32, ⟨qfound21, usfound22, xp23, xe24, rfl, w26, p27, eb28, rfound25⟩⟩
      exact ⟨ex32, w26.i, p27, ownOk0⟩
    · rintro Sb13 st12 _ S41 H42 s43 S44 H45 ⟨ex47, ⟨qfound33, usfound34, xp35, xe36, rfl, w38, p39, eb40, rfound37⟩⟩ g46
      exact ⟨ex47.tr g46.s, _, _, _, _, rfl, w38.go (Gm.up g46), PotAt.go p39 g46, eb40.tr g46.s, All.mo g46.s rfound37⟩
    · rintro Sb13 x14 st12 _ σ64 S56 H57 s58 st12_ s2_ D_ ⟨ex63, ⟨qfound48, usfound49, xp50, xe51, rfl, w53, p54, eb55, rfound52⟩⟩ hp hm59 nx60
      obtain ⟨_, ⟨_, rfl, rfl⟩, ⟨_, rfl, rfl⟩⟩ := hp
      refine q_if w53 p54 (t_orT (t_Test (e_gt (e_var (R := rI) rfl rfl) e_cI)) (t_Test (e_lt (e_var (R := rI) rfl rfl) e_cI))) hm59 ?_ ?_
      · intro S65 H66 s67 w68 p69 g70 hm71
        have rfound52 := All.mo g70.s rfound52
        have eb55 := eb55.tr g70.s
        have ex63 := ex63.tr g70.s
        refine q_app (j := 0) w68 p69 rfl rfl rfound52 (e_mul (e_sub (e_var (R := rI) rfl rfl) e_cI) (Ev.eta (e_call (E := E0) (fm := fm_power_of) (R := rI) (a_cons (e_var (R := rI) rfl rfl) (a_one (e_sub (e_var (R := rI) rfl rfl) e_cI)))))) hm71 ?_
        intro found72 vs73 S75 H76 s77 w78 p79 e81 rfound74 hm80
        have eb55 := eb55.tr e81
        have ex63 := ex63.tr e81
        refine nx_done ?_
        cases run_of_pure hm80
        exact (nx60 _ _ _ ⟨ex63, ⟨_, _, _, _, rfl, w78, p79, eb55, rfound74⟩⟩).1
      · intro S83 H84 s85 w86 p87 g88 hm89
        have rfound52 := All.mo g88.s rfound52
        have eb55 := eb55.tr g88.s
        have ex63 := ex63.tr g88.s
        refine q_ext (j := 0) w86 p87 rfl rfl rfound52 (l_lstL (a_consL e_cI (a_consL (Ev.eta (e_call (E := E0) (fm := fm_power_of) (R := rI) (a_cons e_cI (a_one (e_sub (e_var (R := rI) rfl rfl) e_cI))))) (a_nilL (R := rI))))) hm89 ?_
        intro found90 vs91 S93 H94 s95 w96 p97 e99 rfound92 hm98
        have eb55 := eb55.tr e99
        have ex63 := ex63.tr e99
        refine nx_done ?_
        cases run_of_pure hm98
        exact (nx60 _ _ _ ⟨ex63, ⟨_, _, _, _, rfl, w96, p97, eb55, rfound92⟩⟩).1
    · rintro Sb13 st12 _ S109 H110 s111 ⟨_, ⟨qfound101, usfound102, xp103, xe104, rfl, w106, p107, eb108, rfound105⟩⟩ hm112
      refine q_retO (rfl : _ = some (some (V.ref qfound101))) hm112 ?_
      intro hm118
      cases run_of_pure hm118
      exact fin _ ⟨_, _, _, rfl, w106.g, p107, (w106.at (i := 0) rfl).2.2, (w106.at (i := 0) rfl).1, (w106.at (i := 0) rfl).2.1, rfound105⟩
end
abbrev t_greatest_order : Stmt := top 30
theorem sc_greatest_order : FnScope ["n", "found", "length"] ["n"] (defScope t_greatest_order) := ⟨rfl, rfl, rfl, by decide +kernel, rfl, by decide +kernel, by decide +kernel⟩
@[irreducible] noncomputable def m_greatest_order (p_n : Int) : Option Int :=
bnd (1 : Int) fun found1 =>
Mir.lft (m_round_lengths p_n) >>= fun r81 => (lpS r81 (fun (x13 : Int) (st11 : Int) =>
Mir.lft (m_common_divisor st11 x13) >>= fun r62 => Mir.lft (grd (Dv r62)) >>= fun _ => Mir.lft (grd (Sm (st11 / r62) ∧ Sm x13)) >>= fun _ => bnd ((st11 / r62) * x13) fun found52 =>
pure found52) found1) >>= fun (st11 : Int) =>
bnd st11 fun r78 => pure r78
noncomputable abbrev fm_greatest_order : (Int) → Option Int := fun a => m_greatest_order a
abbrev sp_greatest_order (K : PySem.W.Frag) : Sp := spV F0 fm_greatest_order (fun _ => (aOne rI)) rI
section
variable {P : Program} {w : World} {K : PySem.W.Frag} {mg : Str → Option Value} {base : Heap}
theorem g_greatest_order (T : Tx mg base) (D0 : Dk P w K mg base "round_lengths" "round_lengths" t_round_lengths 5 ["n"] (sp_round_lengths K)) (D1 : Dk P w K mg base "common_divisor" "common_divisor" t_common_divisor 1 ["one", "other"] (sp_common_divisor K)) {f : Addr} {fd : FuncData} (F : Fun K "greatest_order" "greatest_order" t_greatest_order f fd) : FnG P w K mg base CX0 6 f fd ["n"] (sp_greatest_order K) := by
  obtain ⟨f0, fd0, F0, m0, G0, b0⟩ := D0
  obtain ⟨f1, fd1, F1, m1, G1, b1⟩ := D1
  refine okG0 F sc_greatest_order (fun vs H Q E h => ?_) (fun cdv A outer s0_ H0 vs Q E hr gd h => ?_)
  · obtain ⟨_, _, _, _, _, _, _, _, ⟨_, rfl, _⟩, _⟩ := h
    rfl
  · obtain ⟨_, p_n, S0, s0, r, s', e0, p0, ⟨_, rfl, rfl⟩, hm0, fin0⟩ := h
    have fin : ∀ v {H' : Hp}, (∃ S', Gm (pt0).M S0 H0 S' H' ∧ PotAt pt0 s' S' H' ∧ rI r v S') → Q v H' := fun v {H'} ⟨S', h1, h2, h3⟩ => fin0 v S' H' h1 h2 h3
    have w0 : Wd pt0 S0 H0 S0 H0 [] := Wd.start e0
    have hm0 : Mir.run (m_greatest_order p_n) s0 = some (r, s') := hm0
    unfold m_greatest_order at hm0
    have sc := sc_greatest_order
    refine ⟨_, pss_cons (ps_set (i := 1) sc.nd rfl (by first | exact Or.inl rfl | exact Or.inr rfl) (pe_int)) (pss_cons (ps_for PassesOwn.never rfl (k_pil K (pe_cG G0 (hr.mono (by decide)) gd rfl m0 F0.kp b0 pass0 (pa_cons (pv 0) (pa_nil)))) (pg_name (i := 2) sc.nd rfl (by first | exact Or.inl rfl | exact Or.inr rfl)) (pss_cons (ps_set (i := 1) sc.nd rfl (by first | exact Or.inl rfl | exact Or.inr rfl) (pe_op op_mulX (pe_op op_fdivW (pv 1) (pe_cG G1 (hr.mono (by decide)) gd rfl m1 F1.kp b1 pass0 (pa_cons (pv 1) (pa_cons (pv 2) (pa_nil))))) (pv 2))) (pss_nil))) (pss_cons (ps_ret (pv 1)) (pss_nil))), ?_⟩
    refine q_set (fun v => [some (.int p_n), some v, none]) (fun _ => rfl) w0 p0 e_cI hm0 ?_
    intro found1 vfound9 S2 H3 s4 w5 p6 g8 rfound10 hm7
    cases (show vfound9 = .int found1 from rfound10)
    refine q_for (p := pt0) w5 p6 (i_L (K := K) (EvL.frz (EvL.eta (l_call (E := E0) (fm := fm_round_lengths) (R := (aAll rI)) (a_one (e_var (R := rI) rfl rfl)))))) (g_nm (R := rI)) hm7 (fun Sb12 st11 σ S' H' s' => Ex Sb12 S' ∧ (∃ (xlength_ : Option V), σ = [some (.int p_n), some (.int st11), xlength_] ∧ Wd pt0 S0 H0 S' H' [] ∧ PotAt pt0 s' S' H' ∧ Ex S2 S')) ?_ ?_ ?_ ?_ ?_
    · intro S14 H15 s16 w17 p18 g19
      exact ⟨Ex.rf, ⟨_, rfl, w17, p18, g19.s⟩⟩
    · rintro Sb12 st11 _ S24 H25 s26 ⟨ex27, ⟨xlength20, rfl, w21, p22, eb23⟩⟩
      exact ⟨ex27, w21.i, p22, ownOk0⟩
    · rintro Sb12 st11 _ S32 H33 s34 S35 H36 ⟨ex38, ⟨xlength28, rfl, w29, p30, eb31⟩⟩ g37
      exact ⟨ex38.tr g37.s, _, rfl, w29.go (Gm.up g37), PotAt.go p30 g37, eb31.tr g37.s⟩
    · rintro Sb12 x13 st11 _ σ51 S43 H44 s45 st11_ s2_ D_ ⟨ex50, ⟨xlength39, rfl, w40, p41, eb42⟩⟩ hp hm46 nx47
      obtain ⟨_, rfl, rfl⟩ := hp
      refine q_set (fun v => [some (.int p_n), some v, some (.int x13)]) (fun _ => rfl) w40 p41 (e_mul (e_fdiv (e_var (R := rI) rfl rfl) (Ev.eta (e_call (E := E0) (fm := fm_common_divisor) (R := rI) (a_cons (e_var (R := rI) rfl rfl) (a_one (e_var (R := rI) rfl rfl)))))) (e_var (R := rI) rfl rfl)) hm46 ?_
      intro found52 vfound60 S53 H54 s55 w56 p57 g59 rfound61 hm58
      cases (show vfound60 = .int found52 from rfound61)
      have eb42 := eb42.tr g59.s
      have ex50 := ex50.tr g59.s
      cases run_of_pure hm58
      exact (nx47 _ _ _ ⟨ex50, ⟨_, rfl, w56, p57, eb42⟩⟩).1
    · rintro Sb12 st11 _ S67 H68 s69 ⟨_, ⟨xlength63, rfl, w64, p65, eb66⟩⟩ hm70
      refine q_ret w64 p65 (e_var (R := rI) rfl rfl) hm70 ?_
      intro r78 v79 S71 H72 s73 w74 p75 g77 rr80 hm76
      cases run_of_pure hm76
      exact fin _ ⟨S71, w74.g, p75, rr80⟩
end
abbrev t_rests_number : Stmt := top 31
theorem sc_rests_number : FnScope ["n", "found", "length"] ["n"] (defScope t_rests_number) := ⟨rfl, rfl, rfl, by decide +kernel, rfl, by decide +kernel, by decide +kernel⟩
@[irreducible] noncomputable def m_rests_number (p_n : Int) : Option Int :=
bnd (1 : Int) fun found1 =>
Mir.lft (m_round_lengths p_n) >>= fun r80 => (lpS r80 (fun (x13 : Int) (st11 : Int) =>
Mir.lft (grd (Sm st11 ∧ Sm x13)) >>= fun _ => bnd (st11 * x13) fun found52 =>
pure found52) found1) >>= fun (st11 : Int) =>
bnd st11 fun r77 => pure r77
noncomputable abbrev fm_rests_number : (Int) → Option Int := fun a => m_rests_number a
abbrev sp_rests_number (K : PySem.W.Frag) : Sp := spV F0 fm_rests_number (fun _ => (aOne rI)) rI
section
variable {P : Program} {w : World} {K : PySem.W.Frag} {mg : Str → Option Value} {base : Heap}
theorem g_rests_number (T : Tx mg base) (D0 : Dk P w K mg base "round_lengths" "round_lengths" t_round_lengths 5 ["n"] (sp_round_lengths K)) {f : Addr} {fd : FuncData} (F : Fun K "rests_number" "rests_number" t_rests_number f fd) : FnG P w K mg base CX0 6 f fd ["n"] (sp_rests_number K) := by
  obtain ⟨f0, fd0, F0, m0, G0, b0⟩ := D0
  refine okG0 F sc_rests_number (fun vs H Q E h => ?_) (fun cdv A outer s0_ H0 vs Q E hr gd h => ?_)
  · obtain ⟨_, _, _, _, _, _, _, _, ⟨_, rfl, _⟩, _⟩ := h
    rfl
  · obtain ⟨_, p_n, S0, s0, r, s', e0, p0, ⟨_, rfl, rfl⟩, hm0, fin0⟩ := h
    have fin : ∀ v {H' : Hp}, (∃ S', Gm (pt0).M S0 H0 S' H' ∧ PotAt pt0 s' S' H' ∧ rI r v S') → Q v H' := fun v {H'} ⟨S', h1, h2, h3⟩ => fin0 v S' H' h1 h2 h3
    have w0 : Wd pt0 S0 H0 S0 H0 [] := Wd.start e0
    have hm0 : Mir.run (m_rests_number p_n) s0 = some (r, s') := hm0
    unfold m_rests_number at hm0
    have sc := sc_rests_number
    refine ⟨_, pss_cons (ps_set (i := 1) sc.nd rfl (by first | exact Or.inl rfl | exact Or.inr rfl) (pe_int)) (pss_cons (ps_for PassesOwn.never rfl (k_pil K (pe_cG G0 (hr.mono (by decide)) gd rfl m0 F0.kp b0 pass0 (pa_cons (pv 0) (pa_nil)))) (pg_name (i := 2) sc.nd rfl (by first | exact Or.inl rfl | exact Or.inr rfl)) (pss_cons (ps_set (i := 1) sc.nd rfl (by first | exact Or.inl rfl | exact Or.inr rfl) (pe_op op_mulX (pv 1) (pv 2))) (pss_nil))) (pss_cons (ps_ret (pv 1)) (pss_nil))), ?_⟩
    refine q_set (fun v => [some (.int p_n), some v, none]) (fun _ => rfl) w0 p0 e_cI hm0 ?_
    intro found1 vfound9 S2 H3 s4 w5 p6 g8 rfound10 hm7
    cases (show vfound9 = .int found1 from rfound10)
    refine q_for (p := pt0) w5 p6 (i_L (K := K) (EvL.frz (EvL.eta (l_call (E := E0) (fm := fm_round_lengths) (R := (aAll rI)) (a_one (e_var (R := rI) rfl rfl)))))) (g_nm (R := rI)) hm7 (fun Sb12 st11 σ S' H' s' => Ex Sb12 S' ∧ (∃ (xlength_ : Option V), σ = [some (.int p_n), some (.int st11), xlength_] ∧ Wd pt0 S0 H0 S' H' [] ∧ PotAt pt0 s' S' H' ∧ Ex S2 S')) ?_ ?_ ?_ ?_ ?_
    · intro S14 H15 s16 w17 p18 g19
      exact ⟨Ex.rf, ⟨_, rfl, w17, p18, g19.s⟩⟩
    · rintro Sb12 st11 _ S24 H25 s26 ⟨ex27, ⟨xlength20, rfl, w21, p22, eb23⟩⟩
      exact ⟨ex27, w21.i, p22, ownOk0⟩
    · rintro Sb12 st11 _ S32 H33 s34 S35 H36 ⟨ex38, ⟨xlength28, rfl, w29, p30, eb31⟩⟩ g37
      exact ⟨ex38.tr g37.s, _, rfl, w29.go (Gm.up g37), PotAt.go p30 g37, eb31.tr g37.s⟩
    · rintro Sb12 x13 st11 _ σ51 S43 H44 s45 st11_ s2_ D_ ⟨ex50, ⟨xlength39, rfl, w40, p41, eb42⟩⟩ hp hm46 nx47
      obtain ⟨_, rfl, rfl⟩ := hp
      refine q_set (fun v => [some (.int p_n), some v, some (.int x13)]) (fun _ => rfl) w40 p41 (e_mul (e_var (R := rI) rfl rfl) (e_var (R := rI) rfl rfl)) hm46 ?_
      intro found52 vfound60 S53 H54 s55 w56 p57 g59 rfound61 hm58
      cases (show vfound60 = .int found52 from rfound61)
      have eb42 := eb42.tr g59.s
      have ex50 := ex50.tr g59.s
      cases run_of_pure hm58
      exact (nx47 _ _ _ ⟨ex50, ⟨_, rfl, w56, p57, eb42⟩⟩).1
    · rintro Sb12 st11 _ S66 H67 s68 ⟨_, ⟨xlength62, rfl, w63, p64, eb65⟩⟩ hm69
      refine q_ret w63 p64 (e_var (R := rI) rfl rfl) hm69 ?_
      intro r77 v78 S70 H71 s72 w73 p74 g76 rr79 hm75
      cases run_of_pure hm75
      exact fin _ ⟨S70, w73.g, p74, rr79⟩
end
abbrev t_power_order : Stmt := top 32
theorem sc_power_order : FnScope ["a", "n", "found", "p", "k"] ["a", "n"] (defScope t_power_order) := ⟨rfl, rfl, rfl, by decide +kernel, rfl, by decide +kernel, by decide +kernel⟩
@[irreducible] noncomputable def m_power_order (p_a : Int) (p_n : Int) : Option Int :=
Mir.lft (m_common_divisor p_a p_n) >>= fun r143 => if (decide ((1 : Int) < r143)) = true then
(Mir.lft (none : Option Unit) >>= fun _ => Mir.lft none)
else
(Mir.lft (m_greatest_order p_n) >>= fun r142 => bnd r142 fun found15 =>
Mir.lft (m_primes_of found15) >>= fun r141 => (lpS r141 (fun (x27 : (Int × Int)) (st25 : Int) =>
(whS many (fun (st69 : Int) k => Mir.lft (grd (0 < x27.1)) >>= fun _ => (if (decide ((st69 % x27.1) = (0 : Int))) = true then Mir.lft (grd (Dv x27.1)) >>= fun _ => Mir.lft (m_power_rest p_a (st69 / x27.1) p_n) >>= fun r121 => Mir.lft (grd (0 < p_n)) >>= fun _ => pure (decide (r121 = ((1 : Int) % p_n))) else pure false) >>= fun b120 => k b120) (fun (st69 : Int) =>
Mir.lft (grd (Dv x27.1)) >>= fun _ => bnd (st69 / x27.1) fun found100 =>
pure found100) st25) >>= fun (st69 : Int) =>
pure st69) found15) >>= fun (st25 : Int) =>
bnd st25 fun r138 => pure r138)
noncomputable abbrev fm_power_order : (Int × Int) → Option Int := fun (a0, a1) => m_power_order a0 a1
abbrev sp_power_order (K : PySem.W.Frag) : Sp := spV F0 fm_power_order (fun _ => (aCons rI (aOne rI))) rI
section
variable {P : Program} {w : World} {K : PySem.W.Frag} {mg : Str → Option Value} {base : Heap}
theorem g_power_order (T : Tx mg base) (D0 : Dk P w K mg base "common_divisor" "common_divisor" t_common_divisor 1 ["one", "other"] (sp_common_divisor K)) (D1 : Dk P w K mg base "greatest_order" "greatest_order" t_greatest_order 6 ["n"] (sp_greatest_order K)) (D2 : Dk P w K mg base "primes_of" "primes_of" t_primes_of 4 ["number"] (sp_primes_of K)) (D3 : Dk P w K mg base "power_rest" "power_rest" t_power_rest 1 ["number", "e", "n"] (sp_power_rest K)) {f : Addr} {fd : FuncData} (F : Fun K "power_order" "power_order" t_power_order f fd) : FnG P w K mg base CX0 7 f fd ["a", "n"] (sp_power_order K) := by
  obtain ⟨f0, fd0, F0, m0, G0, b0⟩ := D0
  obtain ⟨f1, fd1, F1, m1, G1, b1⟩ := D1
  obtain ⟨f2, fd2, F2, m2, G2, b2⟩ := D2
  obtain ⟨f3, fd3, F3, m3, G3, b3⟩ := D3
  refine okG0 F sc_power_order (fun vs H Q E h => ?_) (fun cdv A outer s0_ H0 vs Q E hr gd h => ?_)
  · obtain ⟨_, _, _, _, _, _, _, _, ⟨_, _, rfl, _, ⟨_, rfl, _⟩⟩, _⟩ := h
    rfl
  · obtain ⟨_, a, S0, s0, r, s', e0, p0, ⟨_, _, rfl, rfl, ⟨_, rfl, rfl⟩⟩, hm0, fin0⟩ := h
    obtain ⟨p_a, p_n⟩ := a
    have fin : ∀ v {H' : Hp}, (∃ S', Gm (pt0).M S0 H0 S' H' ∧ PotAt pt0 s' S' H' ∧ rI r v S') → Q v H' := fun v {H'} ⟨S', h1, h2, h3⟩ => fin0 v S' H' h1 h2 h3
    have w0 : Wd pt0 S0 H0 S0 H0 [] := Wd.start e0
    have hm0 : Mir.run (m_power_order p_a p_n) s0 = some (r, s') := hm0
    unfold m_power_order at hm0
    have sc := sc_power_order
    refine ⟨_, pss_cons (ps_if (pt_cmpR op_gt (pe_cG G0 (hr.mono (by decide)) gd rfl m0 F0.kp b0 pass0 (pa_cons (pv 0) (pa_cons (pv 1) (pa_nil)))) (pe_int) (nomark _)) (pss_cons (ps_dead) (pss_nil)) (pss_nil)) (pss_cons (ps_set (i := 2) sc.nd rfl (by first | exact Or.inl rfl | exact Or.inr rfl) (pe_cG G1 (hr.mono (by decide)) gd rfl m1 F1.kp b1 pass0 (pa_cons (pv 1) (pa_nil)))) (pss_cons (ps_for PassesOwn.never rfl (k_pit K (pe_cG G2 (hr.mono (by decide)) gd rfl m2 F2.kp b2 pass0 (pa_cons (pv 2) (pa_nil)))) (k_gt K (pgs_cons (pg_name (i := 3) sc.nd rfl (by first | exact Or.inl rfl | exact Or.inr rfl)) (pgs_cons (pg_name (i := 4) sc.nd rfl (by first | exact Or.inl rfl | exact Or.inr rfl)) (pgs_nil)))) (pss_cons (ps_while PassesOwn.never (PW.pt (pw_and (pt_cmpR op_eq (pe_op op_mod (pv 2) (pv 3)) (pe_int) (nomark _)) (pw_and1 (pt_cmpR op_eq (pe_cG G3 (hr.mono (by decide)) gd rfl m3 F3.kp b3 pass0 (pa_cons (pv 0) (pa_cons (pe_op op_fdivW (pv 2) (pv 3)) (pa_cons (pv 1) (pa_nil))))) (pe_op op_mod (pe_int) (pv 1)) (nomark _))))) (pss_cons (ps_set (i := 2) sc.nd rfl (by first | exact Or.inl rfl | exact Or.inr rfl) (pe_op op_fdivW (pv 2) (pv 3))) (pss_nil))) (pss_nil))) (pss_cons (ps_ret (pv 2)) (pss_nil)))), ?_⟩
    refine q_if w0 p0 (t_Test (e_gt (Ev.eta (e_call (E := E0) (fm := fm_common_divisor) (R := rI) (a_cons (e_var (R := rI) rfl rfl) (a_one (e_var (R := rI) rfl rfl))))) e_cI)) hm0 ?_ ?_
    · intro S1 H2 s3 w4 p5 g6 hm7
      exact q_dead hm7
    · intro S8 H9 s10 w11 p12 g13 hm14
      refine nx_done ?_
      refine q_set (fun v => [some (.int p_a), some (.int p_n), some v, none, none]) (fun _ => rfl) w11 p12 (Ev.eta (e_call (E := E0) (fm := fm_greatest_order) (R := rI) (a_one (e_var (R := rI) rfl rfl)))) hm14 ?_
      intro found15 vfound23 S16 H17 s18 w19 p20 g22 rfound24 hm21
      cases (show vfound23 = .int found15 from rfound24)
      refine q_for (p := pt0) w19 p20 (i_T (Ev.eta (e_call (E := E0) (fm := fm_primes_of) (R := (rT K (aAll (rT K (aCons rI (aOne rI)))))) (a_one (e_var (R := rI) rfl rfl))))) (g_tp (gq_cons (g_nm (R := rI)) (gq_one (g_nm (R := rI))))) hm21 (fun Sb26 st25 σ S' H' s' => Ex Sb26 S' ∧ (∃ (xp_ : Option V) (xk_ : Option V), σ = [some (.int p_a), some (.int p_n), some (.int st25), xp_, xk_] ∧ Wd pt0 S0 H0 S' H' [] ∧ PotAt pt0 s' S' H' ∧ Ex S16 S')) ?_ ?_ ?_ ?_ ?_
      · intro S28 H29 s30 w31 p32 g33
        exact ⟨Ex.rf, ⟨_, _, rfl, w31, p32, g33.s⟩⟩
      · rintro Sb26 st25 _ S39 H40 s41 ⟨ex42, ⟨xp34, xk35, rfl, w36, p37, eb38⟩⟩
        exact ⟨ex42, w36.i, p37, ownOk0⟩
      · rintro Sb26 st25 _ S48 H49 s50 S51 H52 ⟨ex54, ⟨xp43, xk44, rfl, w45, p46, eb47⟩⟩ g53
        exact ⟨ex54.tr g53.s, _, _, rfl, w45.go (Gm.up g53), PotAt.go p46 g53, eb47.tr g53.s⟩
      · rintro Sb26 x27 st25 _ σ68 S60 H61 s62 st25_ s2_ D_ ⟨ex67, ⟨xp55, xk56, rfl, w57, p58, eb59⟩⟩ hp hm63 nx64
        obtain ⟨_, ⟨_, rfl, rfl⟩, ⟨_, rfl, rfl⟩⟩ := hp
        refine q_wh (p := pt0) (fun st69 σ S' H' s' => σ = [some (.int p_a), some (.int p_n), some (.int st69), some (.int x27.1), some (.int x27.2)] ∧ Wd pt0 S0 H0 S' H' [] ∧ PotAt pt0 s' S' H' ∧ Ex S60 S') ⟨rfl, w57, p58, Ex.rf⟩ hm63 ?_ ?_ ?_ ?_
        · rintro st69 _ S75 H76 s77 ⟨rfl, w72, p73, eb74⟩
          have eb59 := eb59.tr eb74
          have ex67 := ex67.tr eb74
          exact ⟨p73, w72.i, (t_and (t_Test (e_eq (e_mod (e_var (R := rI) rfl rfl) (e_var (R := rI) rfl rfl)) e_cI)) (t_Test (e_eq (Ev.eta (e_call (E := E0) (fm := fm_power_rest) (R := rI) (a_cons (e_var (R := rI) rfl rfl) (a_cons (e_fdiv (e_var (R := rI) rfl rfl) (e_var (R := rI) rfl rfl)) (a_one (e_var (R := rI) rfl rfl)))))) (e_mod e_cI (e_var (R := rI) rfl rfl)))))⟩
        · rintro st69 _ S81 H82 s83 S84 H85 s86 ⟨rfl, w78, p79, eb80⟩ g87 p88
          exact ⟨rfl, w78.go g87, p88, eb80.tr g87.s⟩
        · rintro st69 _ S92 H93 s94 st69_ s2_ D_ ⟨rfl, w89, p90, eb91⟩ hm95 nx96
          have eb59 := eb59.tr eb91
          have ex67 := ex67.tr eb91
          refine q_set (fun v => [some (.int p_a), some (.int p_n), some v, some (.int x27.1), some (.int x27.2)]) (fun _ => rfl) w89 p90 (e_fdiv (e_var (R := rI) rfl rfl) (e_var (R := rI) rfl rfl)) hm95 ?_
          intro found100 vfound108 S101 H102 s103 w104 p105 g107 rfound109 hm106
          cases (show vfound108 = .int found100 from rfound109)
          have eb59 := eb59.tr g107.s
          have ex67 := ex67.tr g107.s
          have eb91 := eb91.tr g107.s
          cases run_of_pure hm106
          exact (nx96 _ _ _ ⟨rfl, w104, p105, eb91⟩).1
        · rintro st69 _ S113 H114 s115 ⟨rfl, w110, p111, eb112⟩ hm116
          have eb59 := eb59.tr eb112
          have ex67 := ex67.tr eb112
          cases run_of_pure hm116
          exact (nx64 _ _ _ ⟨ex67, ⟨_, _, rfl, w110, p111, eb59⟩⟩).1
      · rintro Sb26 st25 _ S127 H128 s129 ⟨_, ⟨xp122, xk123, rfl, w124, p125, eb126⟩⟩ hm130
        refine q_ret w124 p125 (e_var (R := rI) rfl rfl) hm130 ?_
        intro r138 v139 S131 H132 s133 w134 p135 g137 rr140 hm136
        cases run_of_pure hm136
        exact fin _ ⟨S131, w134.g, p135, rr140⟩
end
abbrev t_divisors_made : Stmt := top 33
theorem sc_divisors_made : FnScope ["parting", "found", "p", "k", "longer", "step", "d"] ["parting"] (defScope t_divisors_made) := ⟨rfl, rfl, rfl, by decide +kernel, rfl, by decide +kernel, by decide +kernel⟩
@[irreducible] noncomputable def m_divisors_made (p_parting : (List (Int × Int))) : Option (List Int) :=
Mir.lft (grd (List.length ([(1 : Int)] : List Int) ≤ 16000000)) >>= fun _ => bnd ([(1 : Int)] : List Int) fun found1 =>
(lpS p_parting (fun (x13 : (Int × Int)) (st11 : (List Int)) =>
Mir.lft (grd (List.length ([] : List Int) ≤ 16000000)) >>= fun _ => bnd ([] : List Int) fun longer67 =>
Mir.lft (grd (RgB (x13.2 + (1 : Int)))) >>= fun _ => (lpS (rng 0 (x13.2 + (1 : Int))) (fun (x80 : Int) (st78 : (List Int)) =>
Mir.lft (grd (List.length st11 ≤ 16000000)) >>= fun _ => cmp st11 (fun x128 => Mir.lft (m_power_of x13.1 x80) >>= fun r132 => Mir.lft (grd (Sm x128 ∧ Sm r132)) >>= fun _ => pure (some (x128 * r132))) >>= fun l143 => Mir.lft (grd (List.length st78 + List.length l143 ≤ 16000000)) >>= fun _ => bnd (st78 ++ l143) fun longer133 =>
pure longer133) longer67) >>= fun (st78 : (List Int)) =>
bnd st78 fun _ =>
pure st78) found1) >>= fun (st11 : (List Int)) =>
bnd (srt st11) fun r182 => pure r182
noncomputable abbrev fm_divisors_made : ((List (Int × Int))) → Option (List Int) := fun a => m_divisors_made a
abbrev sp_divisors_made (K : PySem.W.Frag) : Sp := spN F0 fm_divisors_made (fun _ => (aOne (rT K (aAll (rT K (aCons rI (aOne rI))))))) (aAll rI)
section
variable {P : Program} {w : World} {K : PySem.W.Frag} {mg : Str → Option Value} {base : Heap}
theorem g_divisors_made (T : Tx mg base) (D0 : Dk P w K mg base "power_of" "power_of" t_power_of 1 ["number", "k"] (sp_power_of K)) {f : Addr} {fd : FuncData} (F : Fun K "divisors_made" "divisors_made" t_divisors_made f fd) : FnG P w K mg base CX0 2 f fd ["parting"] (sp_divisors_made K) := by
  obtain ⟨f0, fd0, F0, m0, G0, b0⟩ := D0
  refine okG0 F sc_divisors_made (fun vs H Q E h => ?_) (fun cdv A outer s0_ H0 vs Q E hr gd h => ?_)
  · obtain ⟨_, _, _, _, _, _, _, _, ⟨_, rfl, _⟩, _⟩ := h
    rfl
  · obtain ⟨_, p_parting, S0, s0, r, s', e0, p0, ⟨v_parting, rfl, r_parting⟩, hm0, fin0⟩ := h
    have fin : ∀ v {H' : Hp}, (∃ S' q us, v = .ref q ∧ Gm (pt0).M S0 H0 S' H' ∧ PotAt pt0 s' S' H' ∧ H0 q = none ∧ H' q = some (.lst us) ∧ S' q = none ∧ (aAll rI) r us S') → Q v H' := fun v {H'} ⟨S', q, us, h0, h1, h2, h3, h4, h5, h6⟩ => by subst h0; exact fin0 q us S' H' h1 h2 h3 h4 h5 h6
    have w0 : Wd pt0 S0 H0 S0 H0 [] := Wd.start e0
    have hm0 : Mir.run (m_divisors_made p_parting) s0 = some (r, s') := hm0
    unfold m_divisors_made at hm0
    have sc := sc_divisors_made
    refine ⟨_, pss_cons (ps_set (i := 1) sc.nd rfl (by first | exact Or.inl rfl | exact Or.inr rfl) (pe_lst (pa_cons (pe_int) (pa_nil)))) (pss_cons (ps_for PassesOwn.never rfl (k_pit K (pv 0)) (k_gt K (pgs_cons (pg_name (i := 2) sc.nd rfl (by first | exact Or.inl rfl | exact Or.inr rfl)) (pgs_cons (pg_name (i := 3) sc.nd rfl (by first | exact Or.inl rfl | exact Or.inr rfl)) (pgs_nil)))) (pss_cons (ps_set (i := 4) sc.nd rfl (by first | exact Or.inl rfl | exact Or.inr rfl) (pe_lst (pa_nil))) (pss_cons (ps_for PassesOwn.never rfl (pi_range1 rfl T.n_range (pa_cons (pe_op op_add (pv 3) (pe_int)) pa_nil)) (pg_name (i := 5) sc.nd rfl (by first | exact Or.inl rfl | exact Or.inr rfl)) (pss_cons (ps_expr (pe_bm PySem.F.plainAttrs_list PySem.F.slot_list_extend PySem.F.type_list_extend mt_extend (pv 4) (pa_cons (pe_lc (own := [("d", 6)]) (g := (gName 6)) (tt := tYes) rfl sc.nd (k_pil K (pv 1)) (blkOk_by (N := ["parting", "found", "p", "k", "longer", "step", "d"]) (sc := defScope t_divisors_made) (by decide +kernel)) (fun _ _ _ _ _ => pg_name (i := 6) sc.nd rfl (by first | exact Or.inl rfl | exact Or.inr rfl)) (fun _ _ _ _ _ => pts_nil) (fun _ _ _ _ _ => pe_op op_mulX (pv 6) (pe_cG G0 (hr.mono (by decide)) gd rfl m0 F0.kp b0 pass0 (pa_cons (pv 2) (pa_cons (pv 5) (pa_nil)))))) pa_nil))) (pss_nil))) (pss_cons (ps_set (i := 1) sc.nd rfl (by first | exact Or.inl rfl | exact Or.inr rfl) (pv 4)) (pss_nil))))) (pss_cons (ps_ret (pe_callB (k_srt K) (by rfl) T.n_sorted (by decide +kernel) (pa_cons (pv 1) pa_nil))) (pss_nil))), ?_⟩
    refine q_set (fun v => [some v_parting, some v, none, none, none, none, none]) (fun _ => rfl) w0 p0 (EvL.frz (l_lstL (a_consL e_cI (a_nilL (R := rI))))) hm0 ?_
    intro found1 vfound9 S2 H3 s4 w5 p6 g8 rfound10 hm7
    have r_parting := Mo.mo g8.s r_parting
    refine q_for (p := pt0) w5 p6 (i_T (e_var rfl r_parting)) (g_tp (gq_cons (g_nm (R := rI)) (gq_one (g_nm (R := rI))))) hm7 (fun Sb12 st11 σ S' H' s' => Ex Sb12 S' ∧ (∃ (vfound_ : V) (xp_ : Option V) (xk_ : Option V) (xlonger_ : Option V) (xstep_ : Option V), σ = [some v_parting, some vfound_, xp_, xk_, xlonger_, xstep_, none] ∧ Wd pt0 S0 H0 S' H' [] ∧ PotAt pt0 s' S' H' ∧ Ex S2 S' ∧ (rL (aAll rI)) st11 vfound_ S')) ?_ ?_ ?_ ?_ ?_
    · intro S14 H15 s16 w17 p18 g19
      have r_parting := Mo.mo g19.s r_parting
      have rfound10 := Mo.mo g19.s rfound10
      exact ⟨Ex.rf, ⟨_, _, _, _, _, rfl, w17, p18, g19.s, rfound10⟩⟩
    · rintro Sb12 st11 _ S29 H30 s31 ⟨ex32, ⟨vfound20, xp21, xk22, xlonger23, xstep24, rfl, w26, p27, eb28, rfound25⟩⟩
      exact ⟨ex32, w26.i, p27, ownOk0⟩
    · rintro Sb12 st11 _ S42 H43 s44 S45 H46 ⟨ex48, ⟨vfound33, xp34, xk35, xlonger36, xstep37, rfl, w39, p40, eb41, rfound38⟩⟩ g47
      exact ⟨ex48.tr g47.s, _, _, _, _, _, rfl, w39.go (Gm.up g47), PotAt.go p40 g47, eb41.tr g47.s, Mo.mo g47.s rfound38⟩
    · rintro Sb12 x13 st11 _ σ66 S58 H59 s60 st11_ s2_ D_ ⟨ex65, ⟨vfound49, xp50, xk51, xlonger52, xstep53, rfl, w55, p56, eb57, rfound54⟩⟩ hp hm61 nx62
      obtain ⟨_, ⟨_, rfl, rfl⟩, ⟨_, rfl, rfl⟩⟩ := hp
      have r_parting := Mo.mo eb57 r_parting
      refine q_setL (fun v => [some v_parting, some vfound49, some (.int x13.1), some (.int x13.2), some v, xstep53, none]) (fun _ => rfl) w55 p56 (l_lstL (a_nilL (R := rI))) hm61 ?_
      intro longer67 q75 vs76 S68 H69 s70 w71 p72 g74 rlonger77 hm73
      have rlonger77 : All rI _ _ _ := rlonger77
      have r_parting := Mo.mo g74.s r_parting
      have rfound54 := Mo.mo g74.s rfound54
      have eb57 := eb57.tr g74.s
      have ex65 := ex65.tr g74.s
      refine q_for (p := pt0) w71 p72 (i_R1 (e_add (e_var (R := rI) rfl rfl) e_cI)) (g_nm (R := rI)) hm73 (fun Sb79 st78 σ S' H' s' => Ex Sb79 S' ∧ (∃ (qlonger_ : Addr) (uslonger_ : List V) (xstep_ : Option V), σ = [some v_parting, some vfound49, some (.int x13.1), some (.int x13.2), some (.ref qlonger_), xstep_, none] ∧ Wd pt0 S0 H0 S' H' [(qlonger_, .lst uslonger_)] ∧ PotAt pt0 s' S' H' ∧ Ex S68 S' ∧ All rI S' st78 uslonger_)) ?_ ?_ ?_ ?_ ?_
      · intro S81 H82 s83 w84 p85 g86
        have r_parting := Mo.mo g86.s r_parting
        have rfound54 := Mo.mo g86.s rfound54
        have rlonger77 := All.mo g86.s rlonger77
        have eb57 := eb57.tr g86.s
        have ex65 := ex65.tr g86.s
        exact ⟨Ex.rf, ⟨_, _, _, rfl, w84, p85, g86.s, rlonger77⟩⟩
      · rintro Sb79 st78 _ S94 H95 s96 ⟨ex97, ⟨qlonger87, uslonger88, xstep89, rfl, w91, p92, eb93, rlonger90⟩⟩
        exact ⟨ex97, w91.i, p92, ownOk0⟩
      · rintro Sb79 st78 _ S105 H106 s107 S108 H109 ⟨ex111, ⟨qlonger98, uslonger99, xstep100, rfl, w102, p103, eb104, rlonger101⟩⟩ g110
        exact ⟨ex111.tr g110.s, _, _, _, rfl, w102.go (Gm.up g110), PotAt.go p103 g110, eb104.tr g110.s, All.mo g110.s rlonger101⟩
      · rintro Sb79 x80 st78 _ σ127 S119 H120 s121 st78_ s2_ D_ ⟨ex126, ⟨qlonger112, uslonger113, xstep114, rfl, w116, p117, eb118, rlonger115⟩⟩ hp hm122 nx123
        obtain ⟨_, rfl, rfl⟩ := hp
        have r_parting := Mo.mo eb118 r_parting
        have rfound54 := Mo.mo eb118 rfound54
        have eb57 := eb57.tr eb118
        have ex65 := ex65.tr eb118
        refine q_ext (j := 0) w116 p117 rfl rfl rlonger115 (l_lc1 (γ := Int) (vs := [6]) (me := fun x128 k => Mir.lft (m_power_of x13.1 x80) >>= fun r131 => Mir.lft (grd (Sm x128 ∧ Sm r131)) >>= fun _ => k (x128 * r131)) (R' := rI) (i_L (K := K) (e_var rfl rfound54)) ownOk0 (g_nm (R := rI)) (fun x σ' S hp => by obtain ⟨_, rfl, _⟩ := hp; rfl) (fun x128 σ' S1 H1 g129 hp => by have w130 := w116.go g129; obtain ⟨_, rfl, rfl⟩ := hp; have r_parting := Mo.mo g129.s r_parting; have rfound54 := Mo.mo g129.s rfound54; have rlonger115 := All.mo g129.s rlonger115; exact (e_mul (e_var (R := rI) rfl rfl) (Ev.eta (e_call (E := E0) (fm := fm_power_of) (R := rI) (a_cons (e_var (R := rI) rfl rfl) (a_one (e_var (R := rI) rfl rfl))))))) pm_nm) hm122 ?_
        intro longer133 vs134 S136 H137 s138 w139 p140 e142 rlonger135 hm141
        have r_parting := Mo.mo e142 r_parting
        have rfound54 := Mo.mo e142 rfound54
        have eb57 := eb57.tr e142
        have ex65 := ex65.tr e142
        have eb118 := eb118.tr e142
        have ex126 := ex126.tr e142
        cases run_of_pure hm141
        exact (nx123 _ _ _ ⟨ex126, ⟨_, _, _, rfl, w139, p140, eb118, rlonger135⟩⟩).1
      · rintro Sb79 st78 _ S151 H152 s153 ⟨_, ⟨qlonger144, uslonger145, xstep146, rfl, w148, p149, eb150, rlonger147⟩⟩ hm154
        have r_parting := Mo.mo eb150 r_parting
        have rfound54 := Mo.mo eb150 rfound54
        have eb57 := eb57.tr eb150
        have ex65 := ex65.tr eb150
        refine q_mv (i := 4) (j := 0) [some v_parting, some (.ref qlonger144), some (.int x13.1), some (.int x13.2), some (.ref qlonger144), xstep146, none] rfl w148 p149 rfl rfl rlonger147 hm154 ?_
        intro S155 w156 p157 ex158 r159 hm160
        have r_parting := Mo.mo ex158 r_parting
        have eb57 := eb57.tr ex158
        have ex65 := ex65.tr ex158
        cases run_of_pure hm160
        exact (nx62 _ _ _ ⟨ex65, ⟨_, _, _, _, _, rfl, w156, p157, eb57, r159⟩⟩).1
    · rintro Sb12 st11 _ S171 H172 s173 ⟨_, ⟨vfound162, xp163, xk164, xlonger165, xstep166, rfl, w168, p169, eb170, rfound167⟩⟩ hm174
      have r_parting := Mo.mo eb170 r_parting
      refine q_retL w168 p169 (l_srt (Ev.rd (e_var rfl rfound167))) hm174 ?_
      intro r182 q183 vs184 S175 H176 s177 w178 p179 g181 rr185 hm180
      cases run_of_pure hm180
      exact fin _ ⟨S175, q183, vs184, rfl, w178.g, p179, (w178.at (i := 0) rfl).2.2, (w178.at (i := 0) rfl).1, (w178.at (i := 0) rfl).2.1, rr185⟩
end
abbrev t_order_counts : Stmt := top 34
theorem sc_order_counts : FnScope ["n", "order", "parting", "many", "p", "k", "lengths", "found", "count", "length", "less", "own"] ["n"] (defScope t_order_counts) := ⟨rfl, rfl, rfl, by decide +kernel, rfl, by decide +kernel, by decide +kernel⟩
@[irreducible] noncomputable def m_order_counts (p_n : Int) : Option (List (Int × Int)) :=
Mir.lft (m_greatest_order p_n) >>= fun r285 => Mir.lft (m_primes_of r285) >>= fun r284 => bnd r284 fun parting1 =>
bnd (1 : Int) fun many11 =>
(lpS parting1 (fun (x23 : (Int × Int)) (st21 : Int) =>
Mir.lft (grd (Sm st21 ∧ Sm (x23.2 + (1 : Int)))) >>= fun _ => bnd (st21 * (x23.2 + (1 : Int))) fun many65 =>
pure many65) many11) >>= fun (st21 : Int) =>
if (decide ((500 : Int) < st21)) = true then
(Mir.lft (none : Option Unit) >>= fun _ => Mir.lft none)
else
(Mir.lft (m_round_lengths p_n) >>= fun r283 => bnd r283 fun lengths98 =>
Mir.lft (grd (List.length ([] : List (Int × Int)) ≤ 16000000)) >>= fun _ => bnd ([] : List (Int × Int)) fun found108 =>
Mir.lft (m_divisors_made parting1) >>= fun r282 => (lpS r282 (fun (x121 : Int) (st119 : (List (Int × Int))) =>
bnd (1 : Int) fun count175 =>
(lpS lengths98 (fun (x187 : Int) (st185 : Int) =>
Mir.lft (m_common_divisor x121 x187) >>= fun r236 => Mir.lft (grd (Sm st185 ∧ Sm r236)) >>= fun _ => bnd (st185 * r236) fun count226 =>
pure count226) count175) >>= fun (st185 : Int) =>
Mir.lft (grd (List.length st119 ≤ 16000000)) >>= fun _ => cmp st119 (fun x245 => Mir.lft (grd (0 < x245.1)) >>= fun _ => if (decide ((x121 % x245.1) = (0 : Int))) = true then pure (some x245.2) else pure none) >>= fun l258 => Mir.lft (grd (List.length st119 < 16000000)) >>= fun _ => bnd (st119 ++ [(x121, (st185 - (List.sum l258)))]) fun found248 =>
pure found248) found108) >>= fun (st119 : (List (Int × Int))) =>
bnd st119 fun r279 => pure r279)
noncomputable abbrev fm_order_counts : (Int) → Option (List (Int × Int)) := fun a => m_order_counts a
abbrev sp_order_counts (K : PySem.W.Frag) : Sp := spV F0 fm_order_counts (fun _ => (aOne rI)) (rT K (aAll (rT K (aCons rI (aOne rI)))))
section
variable {P : Program} {w : World} {K : PySem.W.Frag} {mg : Str → Option Value} {base : Heap}
theorem g_order_counts (T : Tx mg base) (D0 : Dk P w K mg base "primes_of" "primes_of" t_primes_of 4 ["number"] (sp_primes_of K)) (D1 : Dk P w K mg base "greatest_order" "greatest_order" t_greatest_order 6 ["n"] (sp_greatest_order K)) (D2 : Dk P w K mg base "round_lengths" "round_lengths" t_round_lengths 5 ["n"] (sp_round_lengths K)) (D3 : Dk P w K mg base "divisors_made" "divisors_made" t_divisors_made 2 ["parting"] (sp_divisors_made K)) (D4 : Dk P w K mg base "common_divisor" "common_divisor" t_common_divisor 1 ["one", "other"] (sp_common_divisor K)) {f : Addr} {fd : FuncData} (F : Fun K "order_counts" "order_counts" t_order_counts f fd) : FnG P w K mg base CX0 7 f fd ["n"] (sp_order_counts K) := by
  obtain ⟨f0, fd0, F0, m0, G0, b0⟩ := D0
  obtain ⟨f1, fd1, F1, m1, G1, b1⟩ := D1
  obtain ⟨f2, fd2, F2, m2, G2, b2⟩ := D2
  obtain ⟨f3, fd3, F3, m3, G3, b3⟩ := D3
  obtain ⟨f4, fd4, F4, m4, G4, b4⟩ := D4
  refine okG0 F sc_order_counts (fun vs H Q E h => ?_) (fun cdv A outer s0_ H0 vs Q E hr gd h => ?_)
  · obtain ⟨_, _, _, _, _, _, _, _, ⟨_, rfl, _⟩, _⟩ := h
    rfl
  · obtain ⟨_, p_n, S0, s0, r, s', e0, p0, ⟨_, rfl, rfl⟩, hm0, fin0⟩ := h
    have fin : ∀ v {H' : Hp}, (∃ S', Gm (pt0).M S0 H0 S' H' ∧ PotAt pt0 s' S' H' ∧ (rT K (aAll (rT K (aCons rI (aOne rI))))) r v S') → Q v H' := fun v {H'} ⟨S', h1, h2, h3⟩ => fin0 v S' H' h1 h2 h3
    have w0 : Wd pt0 S0 H0 S0 H0 [] := Wd.start e0
    have hm0 : Mir.run (m_order_counts p_n) s0 = some (r, s') := hm0
    unfold m_order_counts at hm0
    have sc := sc_order_counts
    refine ⟨_, pss_cons (ps_par (i := 2) (j := 3) rfl sc.nd rfl rfl (by decide) rfl rfl (pa_cons (pe_cG G0 (hr.mono (by decide)) gd rfl m0 F0.kp b0 pass0 (pa_cons (pe_cG G1 (hr.mono (by decide)) gd rfl m1 F1.kp b1 pass0 (pa_cons (pv 0) (pa_nil))) (pa_nil))) (pa_cons (pe_int) (pa_nil))) (by rfl)) (pss_cons (ps_for PassesOwn.never rfl (k_pit K (pv 2)) (k_gt K (pgs_cons (pg_name (i := 4) sc.nd rfl (by first | exact Or.inl rfl | exact Or.inr rfl)) (pgs_cons (pg_name (i := 5) sc.nd rfl (by first | exact Or.inl rfl | exact Or.inr rfl)) (pgs_nil)))) (pss_cons (ps_set (i := 3) sc.nd rfl (by first | exact Or.inl rfl | exact Or.inr rfl) (pe_op op_mulX (pv 3) (pe_op op_add (pv 5) (pe_int)))) (pss_nil))) (pss_cons (ps_if (pt_cmpR op_gt (pv 3) (pe_glob (v := .int 500) rfl T.c_MAX_LISTED.choose_spec ⟨_, rfl⟩) (nomark _)) (pss_cons (ps_dead) (pss_nil)) (pss_nil)) (pss_cons (ps_par (i := 6) (j := 7) rfl sc.nd rfl rfl (by decide) rfl rfl (pa_cons (pe_cG G2 (hr.mono (by decide)) gd rfl m2 F2.kp b2 pass0 (pa_cons (pv 0) (pa_nil))) (pa_cons (pe_lst (pa_nil)) (pa_nil))) (by rfl)) (pss_cons (ps_for PassesOwn.never rfl (k_pil K (pe_cG G3 (hr.mono (by decide)) gd rfl m3 F3.kp b3 pass0 (pa_cons (pv 2) (pa_nil)))) (pg_name (i := 1) sc.nd rfl (by first | exact Or.inl rfl | exact Or.inr rfl)) (pss_cons (ps_set (i := 8) sc.nd rfl (by first | exact Or.inl rfl | exact Or.inr rfl) (pe_int)) (pss_cons (ps_for PassesOwn.never rfl (k_pil K (pv 6)) (pg_name (i := 9) sc.nd rfl (by first | exact Or.inl rfl | exact Or.inr rfl)) (pss_cons (ps_set (i := 8) sc.nd rfl (by first | exact Or.inl rfl | exact Or.inr rfl) (pe_op op_mulX (pv 8) (pe_cG G4 (hr.mono (by decide)) gd rfl m4 F4.kp b4 pass0 (pa_cons (pv 1) (pa_cons (pv 9) (pa_nil)))))) (pss_nil))) (pss_cons (ps_expr (pe_bm PySem.F.plainAttrs_list PySem.F.slot_list_append PySem.F.type_list_append mt_append (pv 7) (pa_cons (pe_tup (pa_cons (pv 1) (pa_cons (pe_op op_sub (pv 8) (pe_callB (k_sum K) (by rfl) T.n_sum (by decide +kernel) (pa_cons (pe_lc (own := [("less", 10), ("own", 11)]) (g := (gTup K 2 (gCons (gName 10) (gCons (gName 11) gNil)))) rfl sc.nd (k_pil K (pv 7)) (blkOk_by (N := ["n", "order", "parting", "many", "p", "k", "lengths", "found", "count", "length", "less", "own"]) (sc := defScope t_order_counts) (by decide +kernel)) (fun _ _ _ _ _ => k_gt K (pgs_cons (pg_name (i := 10) sc.nd rfl (by first | exact Or.inl rfl | exact Or.inr rfl)) (pgs_cons (pg_name (i := 11) sc.nd rfl (by first | exact Or.inl rfl | exact Or.inr rfl)) (pgs_nil)))) (fun _ _ _ _ _ => pts_one (pt_cmpR op_eq (pe_op op_mod (pv 1) (pv 10)) (pe_int) (nomark _))) (fun _ _ _ _ _ => pv 11)) pa_nil))) (pa_nil)))) pa_nil))) (pss_nil))))) (pss_cons (ps_ret (pe_callTy (k_tupOf K) (by rfl) T.n_tuple (by decide +kernel) (pa_cons (pv 7) pa_nil))) (pss_nil)))))), ?_⟩
    refine par_go ?_
    refine x_ev w0 p0 (Ev.eta (e_call (E := E0) (fm := fm_primes_of) (R := (rT K (aAll (rT K (aCons rI (aOne rI)))))) (a_one (Ev.eta (e_call (E := E0) (fm := fm_greatest_order) (R := rI) (a_one (e_var (R := rI) rfl rfl))))))) hm0 ?_
    intro parting1 vparting9 S2 H3 s4 w5 p6 g8 rparting10 hm7
    refine x_ev w5 p6 e_cI hm7 ?_
    intro many11 vmany19 S12 H13 s14 w15 p16 g18 rmany20 hm17
    cases (show vmany19 = .int many11 from rmany20)
    have rparting10 := Mo.mo g18.s rparting10
    refine par_end [some (.int p_n), none, some vparting9, some (.int many11), none, none, none, none, none, none, none, none] rfl ?_
    refine q_for (p := pt0) w15 p16 (i_T (e_var rfl rparting10)) (g_tp (gq_cons (g_nm (R := rI)) (gq_one (g_nm (R := rI))))) hm17 (fun Sb22 st21 σ S' H' s' => Ex Sb22 S' ∧ (∃ (xp_ : Option V) (xk_ : Option V), σ = [some (.int p_n), none, some vparting9, some (.int st21), xp_, xk_, none, none, none, none, none, none] ∧ Wd pt0 S0 H0 S' H' [] ∧ PotAt pt0 s' S' H' ∧ Ex S12 S')) ?_ ?_ ?_ ?_ ?_
    · intro S24 H25 s26 w27 p28 g29
      have rparting10 := Mo.mo g29.s rparting10
      exact ⟨Ex.rf, ⟨_, _, rfl, w27, p28, g29.s⟩⟩
    · rintro Sb22 st21 _ S35 H36 s37 ⟨ex38, ⟨xp30, xk31, rfl, w32, p33, eb34⟩⟩
      exact ⟨ex38, w32.i, p33, ownOk0⟩
    · rintro Sb22 st21 _ S44 H45 s46 S47 H48 ⟨ex50, ⟨xp39, xk40, rfl, w41, p42, eb43⟩⟩ g49
      exact ⟨ex50.tr g49.s, _, _, rfl, w41.go (Gm.up g49), PotAt.go p42 g49, eb43.tr g49.s⟩
    · rintro Sb22 x23 st21 _ σ64 S56 H57 s58 st21_ s2_ D_ ⟨ex63, ⟨xp51, xk52, rfl, w53, p54, eb55⟩⟩ hp hm59 nx60
      obtain ⟨_, ⟨_, rfl, rfl⟩, ⟨_, rfl, rfl⟩⟩ := hp
      have rparting10 := Mo.mo eb55 rparting10
      refine q_set (fun v => [some (.int p_n), none, some vparting9, some v, some (.int x23.1), some (.int x23.2), none, none, none, none, none, none]) (fun _ => rfl) w53 p54 (e_mul (e_var (R := rI) rfl rfl) (e_add (e_var (R := rI) rfl rfl) e_cI)) hm59 ?_
      intro many65 vmany73 S66 H67 s68 w69 p70 g72 rmany74 hm71
      cases (show vmany73 = .int many65 from rmany74)
      have rparting10 := Mo.mo g72.s rparting10
      have eb55 := eb55.tr g72.s
      have ex63 := ex63.tr g72.s
      cases run_of_pure hm71
      exact (nx60 _ _ _ ⟨ex63, ⟨_, _, rfl, w69, p70, eb55⟩⟩).1
    · rintro Sb22 st21 _ S80 H81 s82 ⟨_, ⟨xp75, xk76, rfl, w77, p78, eb79⟩⟩ hm83
      have rparting10 := Mo.mo eb79 rparting10
      refine q_if w77 p78 (t_Test (e_gt (e_var (R := rI) rfl rfl) e_cI)) hm83 ?_ ?_
      · intro S84 H85 s86 w87 p88 g89 hm90
        have rparting10 := Mo.mo g89.s rparting10
        exact q_dead hm90
      · intro S91 H92 s93 w94 p95 g96 hm97
        have rparting10 := Mo.mo g96.s rparting10
        refine nx_done ?_
        refine par_go ?_
        refine x_ev w94 p95 (EvL.frz (EvL.eta (l_call (E := E0) (fm := fm_round_lengths) (R := (aAll rI)) (a_one (e_var (R := rI) rfl rfl))))) hm97 ?_
        intro lengths98 vlengths106 S99 H100 s101 w102 p103 g105 rlengths107 hm104
        have rparting10 := Mo.mo g105.s rparting10
        refine x_evL w102 p103 (l_lstL (a_nilL (R := (rT K (aCons rI (aOne rI)))))) hm104 ?_
        intro found108 q116 vs117 S109 H110 s111 w112 p113 g115 rfound118 hm114
        have rfound118 : All (rT K (aCons rI (aOne rI))) _ _ _ := rfound118
        have rparting10 := Mo.mo g115.s rparting10
        have rlengths107 := Mo.mo g115.s rlengths107
        refine par_end [some (.int p_n), none, some vparting9, some (.int st21), xp75, xk76, some vlengths106, some (.ref q116), none, none, none, none] rfl ?_
        refine q_for (p := pt0) w112 p113 (i_L (K := K) (EvL.frz (EvL.eta (l_call (E := E0) (fm := fm_divisors_made) (R := (aAll rI)) (a_one (e_var rfl rparting10)))))) (g_nm (R := rI)) hm114 (fun Sb120 st119 σ S' H' s' => Ex Sb120 S' ∧ (∃ (xorder_ : Option V) (qfound_ : Addr) (usfound_ : List V) (xcount_ : Option V) (xlength_ : Option V), σ = [some (.int p_n), xorder_, some vparting9, some (.int st21), xp75, xk76, some vlengths106, some (.ref qfound_), xcount_, xlength_, none, none] ∧ Wd pt0 S0 H0 S' H' [(qfound_, .lst usfound_)] ∧ PotAt pt0 s' S' H' ∧ Ex S109 S' ∧ All (rT K (aCons rI (aOne rI))) S' st119 usfound_)) ?_ ?_ ?_ ?_ ?_
        · intro S122 H123 s124 w125 p126 g127
          have rparting10 := Mo.mo g127.s rparting10
          have rlengths107 := Mo.mo g127.s rlengths107
          have rfound118 := All.mo g127.s rfound118
          exact ⟨Ex.rf, ⟨_, _, _, _, _, rfl, w125, p126, g127.s, rfound118⟩⟩
        · rintro Sb120 st119 _ S137 H138 s139 ⟨ex140, ⟨xorder128, qfound129, usfound130, xcount131, xlength132, rfl, w134, p135, eb136, rfound133⟩⟩
          exact ⟨ex140, w134.i, p135, ownOk0⟩
        · rintro Sb120 st119 _ S150 H151 s152 S153 H154 ⟨ex156, ⟨xorder141, qfound142, usfound143, xcount144, xlength145, rfl, w147, p148, eb149, rfound146⟩⟩ g155
          exact ⟨ex156.tr g155.s, _, _, _, _, _, rfl, w147.go (Gm.up g155), PotAt.go p148 g155, eb149.tr g155.s, All.mo g155.s rfound146⟩
        · rintro Sb120 x121 st119 _ σ174 S166 H167 s168 st119_ s2_ D_ ⟨ex173, ⟨xorder157, qfound158, usfound159, xcount160, xlength161, rfl, w163, p164, eb165, rfound162⟩⟩ hp hm169 nx170
          obtain ⟨_, rfl, rfl⟩ := hp
          have rparting10 := Mo.mo eb165 rparting10
          have rlengths107 := Mo.mo eb165 rlengths107
          refine q_set (fun v => [some (.int p_n), some (.int x121), some vparting9, some (.int st21), xp75, xk76, some vlengths106, some (.ref qfound158), some v, xlength161, none, none]) (fun _ => rfl) w163 p164 e_cI hm169 ?_
          intro count175 vcount183 S176 H177 s178 w179 p180 g182 rcount184 hm181
          cases (show vcount183 = .int count175 from rcount184)
          have rparting10 := Mo.mo g182.s rparting10
          have rlengths107 := Mo.mo g182.s rlengths107
          have rfound162 := All.mo g182.s rfound162
          have eb165 := eb165.tr g182.s
          have ex173 := ex173.tr g182.s
          refine q_for (p := pt0) w179 p180 (i_L (K := K) (e_var rfl rlengths107)) (g_nm (R := rI)) hm181 (fun Sb186 st185 σ S' H' s' => Ex Sb186 S' ∧ (∃ (xlength_ : Option V), σ = [some (.int p_n), some (.int x121), some vparting9, some (.int st21), xp75, xk76, some vlengths106, some (.ref qfound158), some (.int st185), xlength_, none, none] ∧ Wd pt0 S0 H0 S' H' [(qfound158, .lst usfound159)] ∧ PotAt pt0 s' S' H' ∧ Ex S176 S')) ?_ ?_ ?_ ?_ ?_
          · intro S188 H189 s190 w191 p192 g193
            have rparting10 := Mo.mo g193.s rparting10
            have rlengths107 := Mo.mo g193.s rlengths107
            have rfound162 := All.mo g193.s rfound162
            have eb165 := eb165.tr g193.s
            have ex173 := ex173.tr g193.s
            exact ⟨Ex.rf, ⟨_, rfl, w191, p192, g193.s⟩⟩
          · rintro Sb186 st185 _ S198 H199 s200 ⟨ex201, ⟨xlength194, rfl, w195, p196, eb197⟩⟩
            exact ⟨ex201, w195.i, p196, ownOk0⟩
          · rintro Sb186 st185 _ S206 H207 s208 S209 H210 ⟨ex212, ⟨xlength202, rfl, w203, p204, eb205⟩⟩ g211
            exact ⟨ex212.tr g211.s, _, rfl, w203.go (Gm.up g211), PotAt.go p204 g211, eb205.tr g211.s⟩
          · rintro Sb186 x187 st185 _ σ225 S217 H218 s219 st185_ s2_ D_ ⟨ex224, ⟨xlength213, rfl, w214, p215, eb216⟩⟩ hp hm220 nx221
            obtain ⟨_, rfl, rfl⟩ := hp
            have rparting10 := Mo.mo eb216 rparting10
            have rlengths107 := Mo.mo eb216 rlengths107
            have rfound162 := All.mo eb216 rfound162
            have eb165 := eb165.tr eb216
            have ex173 := ex173.tr eb216
            refine q_set (fun v => [some (.int p_n), some (.int x121), some vparting9, some (.int st21), xp75, xk76, some vlengths106, some (.ref qfound158), some v, some (.int x187), none, none]) (fun _ => rfl) w214 p215 (e_mul (e_var (R := rI) rfl rfl) (Ev.eta (e_call (E := E0) (fm := fm_common_divisor) (R := rI) (a_cons (e_var (R := rI) rfl rfl) (a_one (e_var (R := rI) rfl rfl)))))) hm220 ?_
            intro count226 vcount234 S227 H228 s229 w230 p231 g233 rcount235 hm232
            cases (show vcount234 = .int count226 from rcount235)
            have rparting10 := Mo.mo g233.s rparting10
            have rlengths107 := Mo.mo g233.s rlengths107
            have rfound162 := All.mo g233.s rfound162
            have eb165 := eb165.tr g233.s
            have ex173 := ex173.tr g233.s
            have eb216 := eb216.tr g233.s
            have ex224 := ex224.tr g233.s
            cases run_of_pure hm232
            exact (nx221 _ _ _ ⟨ex224, ⟨_, rfl, w230, p231, eb216⟩⟩).1
          · rintro Sb186 st185 _ S241 H242 s243 ⟨_, ⟨xlength237, rfl, w238, p239, eb240⟩⟩ hm244
            have rparting10 := Mo.mo eb240 rparting10
            have rlengths107 := Mo.mo eb240 rlengths107
            have rfound162 := All.mo eb240 rfound162
            have eb165 := eb165.tr eb240
            have ex173 := ex173.tr eb240
            refine q_app (j := 0) w238 p239 rfl rfl rfound162 (e_tup (K := K) (a_cons (e_var (R := rI) rfl rfl) (a_one (e_sub (e_var (R := rI) rfl rfl) (c_sum (EvL.rd (l_lc (γ := Int) (vs := [10, 11]) (mt := fun x245 k => Mir.lft (grd (0 < x245.1)) >>= fun _ => k (decide ((x121 % x245.1) = (0 : Int)))) (me := fun x245 k => k x245.2) (R' := rI) (i_own (K := K) rfl (w238.at (i := 0) rfl).1 (w238.nmAt (i := 0) rfl) rfound162) (ownOk1 (w238.at (i := 0) rfl).1 (w238.nmAt (i := 0) rfl)) (g_tp (gq_cons (g_nm (R := rI)) (gq_one (g_nm (R := rI))))) (fun x σ' S hp => by obtain ⟨_, ⟨_, rfl, _⟩, ⟨_, rfl, _⟩⟩ := hp; rfl) (fun x245 σ' S1 H1 g246 hp => by have w247 := w238.go g246; obtain ⟨_, ⟨_, rfl, rfl⟩, ⟨_, rfl, rfl⟩⟩ := hp; have rparting10 := Mo.mo g246.s rparting10; have rlengths107 := Mo.mo g246.s rlengths107; have rfound162 := All.mo g246.s rfound162; exact (t_Test (e_eq (e_mod (e_var (R := rI) rfl rfl) (e_var (R := rI) rfl rfl)) e_cI))) (fun x245 σ' S1 H1 g246 hp => by have w247 := w238.go g246; obtain ⟨_, ⟨_, rfl, rfl⟩, ⟨_, rfl, rfl⟩⟩ := hp; have rparting10 := Mo.mo g246.s rparting10; have rlengths107 := Mo.mo g246.s rlengths107; have rfound162 := All.mo g246.s rfound162; exact (e_var (R := rI) rfl rfl)) (pm_cons pm_nm pm_nm))))))) (arN_cons arN_one) (by decide)) hm244 ?_
            intro found248 vs249 S251 H252 s253 w254 p255 e257 rfound250 hm256
            have rparting10 := Mo.mo e257 rparting10
            have rlengths107 := Mo.mo e257 rlengths107
            have eb165 := eb165.tr e257
            have ex173 := ex173.tr e257
            cases run_of_pure hm256
            exact (nx170 _ _ _ ⟨ex173, ⟨_, _, _, _, _, rfl, w254, p255, eb165, rfound250⟩⟩).1
        · rintro Sb120 st119 _ S268 H269 s270 ⟨_, ⟨xorder259, qfound260, usfound261, xcount262, xlength263, rfl, w265, p266, eb267, rfound264⟩⟩ hm271
          have rparting10 := Mo.mo eb267 rparting10
          have rlengths107 := Mo.mo eb267 rlengths107
          refine q_ret w265 p266 (c_tup (K := K) (w_own (A := (aAll (rT K (aCons rI (aOne rI))))) (j := 0) w265 rfl rfl rfound264)) hm271 ?_
          intro r279 v280 S272 H273 s274 w275 p276 g278 rr281 hm277
          cases run_of_pure hm277
          exact fin _ ⟨S272, w275.g, p276, rr281⟩
end
abbrev t_least_showing : Stmt := top 36
theorem sc_least_showing : FnScope ["n", "base"] ["n"] (defScope t_least_showing) := ⟨rfl, rfl, rfl, by decide +kernel, rfl, by decide +kernel, by decide +kernel⟩
@[irreducible] noncomputable def m_least_showing (p_n : Int) : Option Int :=
Mir.lft (m_is_prime_number p_n) >>= fun r87 => if r87 = true then
(Mir.lft (none : Option Unit) >>= fun _ => Mir.lft none)
else
(bnd (2 : Int) fun base15 =>
(whS many (fun (st25 : Int) k => Mir.lft (m_does_pass_strongly p_n st25) >>= fun r86 => k r86) (fun (st25 : Int) =>
bnd (st25 + (1 : Int)) fun base56 =>
pure base56) base15) >>= fun (st25 : Int) =>
bnd st25 fun r80 => pure r80)
noncomputable abbrev fm_least_showing : (Int) → Option Int := fun a => m_least_showing a
abbrev sp_least_showing (K : PySem.W.Frag) : Sp := spV F0 fm_least_showing (fun _ => (aOne rI)) rI
section
variable {P : Program} {w : World} {K : PySem.W.Frag} {mg : Str → Option Value} {base : Heap}
theorem g_least_showing (T : Tx mg base) (D0 : Dk P w K mg base "is_prime_number" "is_prime_number" t_is_prime_number 3 ["number"] (sp_is_prime_number K)) (D1 : Dk P w K mg base "does_pass_strongly" "does_pass_strongly" t_does_pass_strongly 2 ["n", "base"] (sp_does_pass_strongly K)) {f : Addr} {fd : FuncData} (F : Fun K "least_showing" "least_showing" t_least_showing f fd) : FnG P w K mg base CX0 4 f fd ["n"] (sp_least_showing K) := by
  obtain ⟨f0, fd0, F0, m0, G0, b0⟩ := D0
  obtain ⟨f1, fd1, F1, m1, G1, b1⟩ := D1
  refine okG0 F sc_least_showing (fun vs H Q E h => ?_) (fun cdv A outer s0_ H0 vs Q E hr gd h => ?_)
  · obtain ⟨_, _, _, _, _, _, _, _, ⟨_, rfl, _⟩, _⟩ := h
    rfl
  · obtain ⟨_, p_n, S0, s0, r, s', e0, p0, ⟨_, rfl, rfl⟩, hm0, fin0⟩ := h
    have fin : ∀ v {H' : Hp}, (∃ S', Gm (pt0).M S0 H0 S' H' ∧ PotAt pt0 s' S' H' ∧ rI r v S') → Q v H' := fun v {H'} ⟨S', h1, h2, h3⟩ => fin0 v S' H' h1 h2 h3
    have w0 : Wd pt0 S0 H0 S0 H0 [] := Wd.start e0
    have hm0 : Mir.run (m_least_showing p_n) s0 = some (r, s') := hm0
    unfold m_least_showing at hm0
    have sc := sc_least_showing
    refine ⟨_, pss_cons (ps_if (pt_val (pe_cG G0 (hr.mono (by decide)) gd rfl m0 F0.kp b0 pass0 (pa_cons (pv 0) (pa_nil)))) (pss_cons (ps_dead) (pss_nil)) (pss_nil)) (pss_cons (ps_set (i := 1) sc.nd rfl (by first | exact Or.inl rfl | exact Or.inr rfl) (pe_int)) (pss_cons (ps_while PassesOwn.never (pt_val (pe_cG G1 (hr.mono (by decide)) gd rfl m1 F1.kp b1 pass0 (pa_cons (pv 0) (pa_cons (pv 1) (pa_nil))))) (pss_cons (ps_set (i := 1) sc.nd rfl (by first | exact Or.inl rfl | exact Or.inr rfl) (pe_op op_add (pv 1) (pe_int))) (pss_nil))) (pss_cons (ps_ret (pv 1)) (pss_nil)))), ?_⟩
    refine q_if w0 p0 (t_B (Ev.eta (e_call (E := E0) (fm := fm_is_prime_number) (R := rB) (a_one (e_var (R := rI) rfl rfl))))) hm0 ?_ ?_
    · intro S1 H2 s3 w4 p5 g6 hm7
      exact q_dead hm7
    · intro S8 H9 s10 w11 p12 g13 hm14
      refine nx_done ?_
      refine q_set (fun v => [some (.int p_n), some v]) (fun _ => rfl) w11 p12 e_cI hm14 ?_
      intro base15 vbase23 S16 H17 s18 w19 p20 g22 rbase24 hm21
      cases (show vbase23 = .int base15 from rbase24)
      refine q_wh (p := pt0) (fun st25 σ S' H' s' => σ = [some (.int p_n), some (.int st25)] ∧ Wd pt0 S0 H0 S' H' [] ∧ PotAt pt0 s' S' H' ∧ Ex S16 S') ⟨rfl, w19, p20, Ex.rf⟩ hm21 ?_ ?_ ?_ ?_
      · rintro st25 _ S31 H32 s33 ⟨rfl, w28, p29, eb30⟩
        exact ⟨p29, w28.i, (t_B (Ev.eta (e_call (E := E0) (fm := fm_does_pass_strongly) (R := rB) (a_cons (e_var (R := rI) rfl rfl) (a_one (e_var (R := rI) rfl rfl))))))⟩
      · rintro st25 _ S37 H38 s39 S40 H41 s42 ⟨rfl, w34, p35, eb36⟩ g43 p44
        exact ⟨rfl, w34.go g43, p44, eb36.tr g43.s⟩
      · rintro st25 _ S48 H49 s50 st25_ s2_ D_ ⟨rfl, w45, p46, eb47⟩ hm51 nx52
        refine q_set (fun v => [some (.int p_n), some v]) (fun _ => rfl) w45 p46 (e_add (e_var (R := rI) rfl rfl) e_cI) hm51 ?_
        intro base56 vbase64 S57 H58 s59 w60 p61 g63 rbase65 hm62
        cases (show vbase64 = .int base56 from rbase65)
        have eb47 := eb47.tr g63.s
        cases run_of_pure hm62
        exact (nx52 _ _ _ ⟨rfl, w60, p61, eb47⟩).1
      · rintro st25 _ S69 H70 s71 ⟨rfl, w66, p67, eb68⟩ hm72
        refine q_ret w66 p67 (e_var (R := rI) rfl rfl) hm72 ?_
        intro r80 v81 S73 H74 s75 w76 p77 g79 rr82 hm78
        cases run_of_pure hm78
        exact fin _ ⟨S73, w76.g, p77, rr82⟩
end
abbrev t_is_prime_told : Stmt := top 37
theorem sc_is_prime_told : FnScope ["n", "base"] ["n"] (defScope t_is_prime_told) := ⟨rfl, rfl, rfl, by decide +kernel, rfl, by decide +kernel, by decide +kernel⟩
@[irreducible] noncomputable def m_is_prime_told (p_n : Int) : Option Bool :=
Mir.lft (grd (List.length ([(2 : Int), (3 : Int), (5 : Int), (7 : Int), (11 : Int), (13 : Int)] : List Int) ≤ 16000000)) >>= fun _ => Mir.lft (grd (List.length ([(2 : Int), (3 : Int), (5 : Int), (7 : Int), (11 : Int), (13 : Int)] : List Int) ≤ 16000000)) >>= fun _ => cmp ([(2 : Int), (3 : Int), (5 : Int), (7 : Int), (11 : Int), (13 : Int)] : List Int) (fun x1 => Mir.lft (grd (0 < p_n)) >>= fun _ => (if (!decide ((x1 % p_n) = (0 : Int))) = true then Mir.lft (grd (0 < x1)) >>= fun _ => pure (!decide ((p_n % x1) = (0 : Int))) else pure false) >>= fun b5 => if b5 = true then Mir.lft (grd (0 < p_n)) >>= fun _ => Mir.lft (m_does_pass_strongly p_n (x1 % p_n)) >>= fun r6 => pure (some r6) else pure none) >>= fun l18 => bnd (List.all l18 id) fun r15 => pure r15
noncomputable abbrev fm_is_prime_told : (Int) → Option Bool := fun a => m_is_prime_told a
abbrev sp_is_prime_told (K : PySem.W.Frag) : Sp := spV F0 fm_is_prime_told (fun _ => (aOne rI)) rB
section
variable {P : Program} {w : World} {K : PySem.W.Frag} {mg : Str → Option Value} {base : Heap}
theorem g_is_prime_told (T : Tx mg base) (D0 : Dk P w K mg base "does_pass_strongly" "does_pass_strongly" t_does_pass_strongly 2 ["n", "base"] (sp_does_pass_strongly K)) {f : Addr} {fd : FuncData} (F : Fun K "is_prime_told" "is_prime_told" t_is_prime_told f fd) : FnG P w K mg base CX0 3 f fd ["n"] (sp_is_prime_told K) := by
  obtain ⟨f0, fd0, F0, m0, G0, b0⟩ := D0
  refine okG0 F sc_is_prime_told (fun vs H Q E h => ?_) (fun cdv A outer s0_ H0 vs Q E hr gd h => ?_)
  · obtain ⟨_, _, _, _, _, _, _, _, ⟨_, rfl, _⟩, _⟩ := h
    rfl
  · obtain ⟨_, p_n, S0, s0, r, s', e0, p0, ⟨_, rfl, rfl⟩, hm0, fin0⟩ := h
    have fin : ∀ v {H' : Hp}, (∃ S', Gm (pt0).M S0 H0 S' H' ∧ PotAt pt0 s' S' H' ∧ rB r v S') → Q v H' := fun v {H'} ⟨S', h1, h2, h3⟩ => fin0 v S' H' h1 h2 h3
    have w0 : Wd pt0 S0 H0 S0 H0 [] := Wd.start e0
    have hm0 : Mir.run (m_is_prime_told p_n) s0 = some (r, s') := hm0
    unfold m_is_prime_told at hm0
    have sc := sc_is_prime_told
    refine ⟨_, pss_cons (ps_ret (pe_callB (k_all K) (by rfl) T.n_all (by decide +kernel) (pa_cons (pe_lc (own := [("base", 1)]) (g := (gName 1)) rfl sc.nd (k_pit K (pe_tup (pa_cons (pe_int) (pa_cons (pe_int) (pa_cons (pe_int) (pa_cons (pe_int) (pa_cons (pe_int) (pa_cons (pe_int) (pa_nil))))))))) (blkOk_by (N := ["n", "base"]) (sc := defScope t_is_prime_told) (by decide +kernel)) (fun _ _ _ _ _ => pg_name (i := 1) sc.nd rfl (by first | exact Or.inl rfl | exact Or.inr rfl)) (fun _ _ _ _ _ => pts_one (PW.pt (pw_and (pt_cmpR op_ne (pe_op op_mod (pv 1) (pv 0)) (pe_int) (nomark _)) (pw_and1 (pt_cmpR op_ne (pe_op op_mod (pv 0) (pv 1)) (pe_int) (nomark _)))))) (fun _ _ _ _ _ => pe_cG G0 (hr.mono (by decide)) gd rfl m0 F0.kp b0 pass0 (pa_cons (pv 0) (pa_cons (pe_op op_mod (pv 1) (pv 0)) (pa_nil))))) pa_nil))) (pss_nil), ?_⟩
    refine q_ret w0 p0 (c_all (EvL.rd (l_lc (γ := Bool) (vs := [1]) (mt := fun x1 k => Mir.lft (grd (0 < p_n)) >>= fun _ => (if (!decide ((x1 % p_n) = (0 : Int))) = true then Mir.lft (grd (0 < x1)) >>= fun _ => pure (!decide ((p_n % x1) = (0 : Int))) else pure false) >>= fun b7 => k b7) (me := fun x1 k => Mir.lft (grd (0 < p_n)) >>= fun _ => Mir.lft (m_does_pass_strongly p_n (x1 % p_n)) >>= fun r4 => k r4) (R' := rB) (i_T (e_tupL (K := K) (a_consL e_cI (a_consL e_cI (a_consL e_cI (a_consL e_cI (a_consL e_cI (a_consL e_cI (a_nilL (R := rI)))))))))) ownOk0 (g_nm (R := rI)) (fun x σ' S hp => by obtain ⟨_, rfl, _⟩ := hp; rfl) (fun x1 σ' S1 H1 g2 hp => by have w3 := w0.go g2; obtain ⟨_, rfl, rfl⟩ := hp; exact (t_and (t_Test (e_ne (e_mod (e_var (R := rI) rfl rfl) (e_var (R := rI) rfl rfl)) e_cI)) (t_Test (e_ne (e_mod (e_var (R := rI) rfl rfl) (e_var (R := rI) rfl rfl)) e_cI)))) (fun x1 σ' S1 H1 g2 hp => by have w3 := w0.go g2; obtain ⟨_, rfl, rfl⟩ := hp; exact (Ev.eta (e_call (E := E0) (fm := fm_does_pass_strongly) (R := rB) (a_cons (e_var (R := rI) rfl rfl) (a_one (e_mod (e_var (R := rI) rfl rfl) (e_var (R := rI) rfl rfl))))))) pm_nm))) hm0 ?_
    intro r15 v16 S8 H9 s10 w11 p12 g14 rr17 hm13
    cases run_of_pure hm13
    exact fin _ ⟨S8, w11.g, p12, rr17⟩
end
abbrev t_parted_by_base : Stmt := top 38
theorem sc_parted_by_base : FnScope ["n", "base", "here", "part", "s", "d"] ["n", "base"] (defScope t_parted_by_base) := ⟨rfl, rfl, rfl, by decide +kernel, rfl, by decide +kernel, by decide +kernel⟩
@[irreducible] noncomputable def m_parted_by_base (p_n : Int) (p_base : Int) : Option (List Int) :=
Mir.lft (m_does_pass p_n p_base) >>= fun r109 => (if (!r109) = true then pure true else Mir.lft (m_does_pass_strongly p_n p_base) >>= fun r110 => pure r110) >>= fun b108 => if b108 = true then
(Mir.lft (none : Option Unit) >>= fun _ => Mir.lft none)
else
(Mir.lft (m_halves_of p_n) >>= fun r107 => bnd r107 fun t15 =>
Mir.lft (m_power_rest p_base t15.2 p_n) >>= fun r106 => bnd r106 fun here24 =>
(whS many (fun (st34 : Int) k => Mir.lft (grd (Sm st34 ∧ Sm st34)) >>= fun _ => Mir.lft (grd (0 < p_n)) >>= fun _ => k (!decide (((st34 * st34) % p_n) = (1 : Int)))) (fun (st34 : Int) =>
Mir.lft (grd (Sm st34 ∧ Sm st34)) >>= fun _ => Mir.lft (grd (0 < p_n)) >>= fun _ => bnd ((st34 * st34) % p_n) fun here65 =>
pure here65) here24) >>= fun (st34 : Int) =>
Mir.lft (m_common_divisor (st34 - (1 : Int)) p_n) >>= fun r102 => bnd r102 fun part82 =>
Mir.lft (grd (Dv part82)) >>= fun _ => Mir.lft (grd (List.length ([part82, (p_n / part82)] : List Int) ≤ 16000000)) >>= fun _ => bnd (srt ([part82, (p_n / part82)] : List Int)) fun r99 => pure r99)
noncomputable abbrev fm_parted_by_base : (Int × Int) → Option (List Int) := fun (a0, a1) => m_parted_by_base a0 a1
abbrev sp_parted_by_base (K : PySem.W.Frag) : Sp := spV F0 fm_parted_by_base (fun _ => (aCons rI (aOne rI))) (rT K (aAll rI))
section
variable {P : Program} {w : World} {K : PySem.W.Frag} {mg : Str → Option Value} {base : Heap}
theorem g_parted_by_base (T : Tx mg base) (D0 : Dk P w K mg base "does_pass" "does_pass_powerpasses" t_does_pass 2 ["n", "base"] (sp_does_pass K)) (D1 : Dk P w K mg base "does_pass_strongly" "does_pass_strongly" t_does_pass_strongly 2 ["n", "base"] (sp_does_pass_strongly K)) (D2 : Dk P w K mg base "halves_of" "halves_of" t_halves_of 1 ["n"] (sp_halves_of K)) (D3 : Dk P w K mg base "power_rest" "power_rest" t_power_rest 1 ["number", "e", "n"] (sp_power_rest K)) (D4 : Dk P w K mg base "common_divisor" "common_divisor" t_common_divisor 1 ["one", "other"] (sp_common_divisor K)) {f : Addr} {fd : FuncData} (F : Fun K "parted_by_base" "parted_by_base" t_parted_by_base f fd) : FnG P w K mg base CX0 3 f fd ["n", "base"] (sp_parted_by_base K) := by
  obtain ⟨f0, fd0, F0, m0, G0, b0⟩ := D0
  obtain ⟨f1, fd1, F1, m1, G1, b1⟩ := D1
  obtain ⟨f2, fd2, F2, m2, G2, b2⟩ := D2
  obtain ⟨f3, fd3, F3, m3, G3, b3⟩ := D3
  obtain ⟨f4, fd4, F4, m4, G4, b4⟩ := D4
  refine okG0 F sc_parted_by_base (fun vs H Q E h => ?_) (fun cdv A outer s0_ H0 vs Q E hr gd h => ?_)
  · obtain ⟨_, _, _, _, _, _, _, _, ⟨_, _, rfl, _, ⟨_, rfl, _⟩⟩, _⟩ := h
    rfl
  · obtain ⟨_, a, S0, s0, r, s', e0, p0, ⟨_, _, rfl, rfl, ⟨_, rfl, rfl⟩⟩, hm0, fin0⟩ := h
    obtain ⟨p_n, p_base⟩ := a
    have fin : ∀ v {H' : Hp}, (∃ S', Gm (pt0).M S0 H0 S' H' ∧ PotAt pt0 s' S' H' ∧ (rT K (aAll rI)) r v S') → Q v H' := fun v {H'} ⟨S', h1, h2, h3⟩ => fin0 v S' H' h1 h2 h3
    have w0 : Wd pt0 S0 H0 S0 H0 [] := Wd.start e0
    have hm0 : Mir.run (m_parted_by_base p_n p_base) s0 = some (r, s') := hm0
    unfold m_parted_by_base at hm0
    have sc := sc_parted_by_base
    refine ⟨_, pss_cons (ps_if (PW.pt (pw_or (pt_not (pt_val (pe_cG G0 (hr.mono (by decide)) gd rfl m0 F0.kp b0 pass0 (pa_cons (pv 0) (pa_cons (pv 1) (pa_nil)))))) (pw_or1 (pt_val (pe_cG G1 (hr.mono (by decide)) gd rfl m1 F1.kp b1 pass0 (pa_cons (pv 0) (pa_cons (pv 1) (pa_nil)))))))) (pss_cons (ps_dead) (pss_nil)) (pss_nil)) (pss_cons (ps_asg (pe_cG G2 (hr.mono (by decide)) gd rfl m2 F2.kp b2 pass0 (pa_cons (pv 0) (pa_nil))) (k_gt K (pgs_cons (pg_name (i := 4) sc.nd rfl (by first | exact Or.inl rfl | exact Or.inr rfl)) (pgs_cons (pg_name (i := 5) sc.nd rfl (by first | exact Or.inl rfl | exact Or.inr rfl)) (pgs_nil))))) (pss_cons (ps_set (i := 2) sc.nd rfl (by first | exact Or.inl rfl | exact Or.inr rfl) (pe_cG G3 (hr.mono (by decide)) gd rfl m3 F3.kp b3 pass0 (pa_cons (pv 1) (pa_cons (pv 5) (pa_cons (pv 0) (pa_nil)))))) (pss_cons (ps_while PassesOwn.never (pt_cmpR op_ne (pe_op op_mod (pe_op op_mulX (pv 2) (pv 2)) (pv 0)) (pe_int) (nomark _)) (pss_cons (ps_set (i := 2) sc.nd rfl (by first | exact Or.inl rfl | exact Or.inr rfl) (pe_op op_mod (pe_op op_mulX (pv 2) (pv 2)) (pv 0))) (pss_nil))) (pss_cons (ps_set (i := 3) sc.nd rfl (by first | exact Or.inl rfl | exact Or.inr rfl) (pe_cG G4 (hr.mono (by decide)) gd rfl m4 F4.kp b4 pass0 (pa_cons (pe_op op_sub (pv 2) (pe_int)) (pa_cons (pv 0) (pa_nil))))) (pss_cons (ps_ret (pe_callTy (k_tupOf K) (by rfl) T.n_tuple (by decide +kernel) (pa_cons (pe_callB (k_srt K) (by rfl) T.n_sorted (by decide +kernel) (pa_cons (pe_lst (pa_cons (pv 3) (pa_cons (pe_op op_fdivW (pv 0) (pv 3)) (pa_nil)))) pa_nil)) pa_nil))) (pss_nil)))))), ?_⟩
    refine q_if w0 p0 (t_or (t_not (t_B (Ev.eta (e_call (E := E0) (fm := fm_does_pass) (R := rB) (a_cons (e_var (R := rI) rfl rfl) (a_one (e_var (R := rI) rfl rfl))))))) (t_B (Ev.eta (e_call (E := E0) (fm := fm_does_pass_strongly) (R := rB) (a_cons (e_var (R := rI) rfl rfl) (a_one (e_var (R := rI) rfl rfl))))))) hm0 ?_ ?_
    · intro S1 H2 s3 w4 p5 g6 hm7
      exact q_dead hm7
    · intro S8 H9 s10 w11 p12 g13 hm14
      refine nx_done ?_
      refine q_unp w11 p12 (Ev.eta (e_call (E := E0) (fm := fm_halves_of) (R := (rT K (aCons rI (aOne rI)))) (a_one (e_var (R := rI) rfl rfl)))) (g_tp (gq_cons (g_nm (R := rI)) (gq_one (g_nm (R := rI))))) hm14 ?_
      intro t15 σ23 S16 H17 s18 w19 p20 g22 hp hm21
      obtain ⟨_, ⟨_, rfl, rfl⟩, ⟨_, rfl, rfl⟩⟩ := hp
      refine q_set (fun v => [some (.int p_n), some (.int p_base), some v, none, some (.int t15.1), some (.int t15.2)]) (fun _ => rfl) w19 p20 (Ev.eta (e_call (E := E0) (fm := fm_power_rest) (R := rI) (a_cons (e_var (R := rI) rfl rfl) (a_cons (e_var (R := rI) rfl rfl) (a_one (e_var (R := rI) rfl rfl)))))) hm21 ?_
      intro here24 vhere32 S25 H26 s27 w28 p29 g31 rhere33 hm30
      cases (show vhere32 = .int here24 from rhere33)
      refine q_wh (p := pt0) (fun st34 σ S' H' s' => σ = [some (.int p_n), some (.int p_base), some (.int st34), none, some (.int t15.1), some (.int t15.2)] ∧ Wd pt0 S0 H0 S' H' [] ∧ PotAt pt0 s' S' H' ∧ Ex S25 S') ⟨rfl, w28, p29, Ex.rf⟩ hm30 ?_ ?_ ?_ ?_
      · rintro st34 _ S40 H41 s42 ⟨rfl, w37, p38, eb39⟩
        exact ⟨p38, w37.i, (t_Test (e_ne (e_mod (e_mul (e_var (R := rI) rfl rfl) (e_var (R := rI) rfl rfl)) (e_var (R := rI) rfl rfl)) e_cI))⟩
      · rintro st34 _ S46 H47 s48 S49 H50 s51 ⟨rfl, w43, p44, eb45⟩ g52 p53
        exact ⟨rfl, w43.go g52, p53, eb45.tr g52.s⟩
      · rintro st34 _ S57 H58 s59 st34_ s2_ D_ ⟨rfl, w54, p55, eb56⟩ hm60 nx61
        refine q_set (fun v => [some (.int p_n), some (.int p_base), some v, none, some (.int t15.1), some (.int t15.2)]) (fun _ => rfl) w54 p55 (e_mod (e_mul (e_var (R := rI) rfl rfl) (e_var (R := rI) rfl rfl)) (e_var (R := rI) rfl rfl)) hm60 ?_
        intro here65 vhere73 S66 H67 s68 w69 p70 g72 rhere74 hm71
        cases (show vhere73 = .int here65 from rhere74)
        have eb56 := eb56.tr g72.s
        cases run_of_pure hm71
        exact (nx61 _ _ _ ⟨rfl, w69, p70, eb56⟩).1
      · rintro st34 _ S78 H79 s80 ⟨rfl, w75, p76, eb77⟩ hm81
        refine q_set (fun v => [some (.int p_n), some (.int p_base), some (.int st34), some v, some (.int t15.1), some (.int t15.2)]) (fun _ => rfl) w75 p76 (Ev.eta (e_call (E := E0) (fm := fm_common_divisor) (R := rI) (a_cons (e_sub (e_var (R := rI) rfl rfl) e_cI) (a_one (e_var (R := rI) rfl rfl))))) hm81 ?_
        intro part82 vpart90 S83 H84 s85 w86 p87 g89 rpart91 hm88
        cases (show vpart90 = .int part82 from rpart91)
        refine q_ret w86 p87 (c_tup (K := K) (EvL.rd (l_srt (EvL.rd (l_lstL (a_consL (e_var (R := rI) rfl rfl) (a_consL (e_fdiv (e_var (R := rI) rfl rfl) (e_var (R := rI) rfl rfl)) (a_nilL (R := rI))))))))) hm88 ?_
        intro r99 v100 S92 H93 s94 w95 p96 g98 rr101 hm97
        cases run_of_pure hm97
        exact fin _ ⟨S92, w95.g, p96, rr101⟩
end
abbrev t__law_of : Stmt := top 41
theorem sc__law_of : FnScope ["pot", "many", "number", "cell"] ["pot", "many"] (defScope t__law_of) := ⟨rfl, rfl, rfl, by decide +kernel, rfl, by decide +kernel, by decide +kernel⟩
@[irreducible] noncomputable def m__law_of (p_many : Int) : PM PotT Int :=
if (decide (p_many < (2 : Int))) = true then
(bnd (0 : Int) fun r15 => pure r15)
else
(potS >>= fun s26 => if (neG s26) = true then
(popL >>= fun c35 => bnd c35 fun cell36 =>
((if (decide (p_many ≤ cell36)) = true then
(Mir.lft (grd (Dv p_many)) >>= fun _ => potS >>= fun s57 => Mir.lft (grd (s57.great.length < 16000000)) >>= fun _ => potW (fun s => { s with great := s.great ++ [(cell36 / p_many)] }) >>= fun _ => pure ())
else
(pure ())) >>= fun (st46 : Unit) =>
Mir.lft (grd (0 < p_many)) >>= fun _ => bnd (cell36 % p_many) fun r89 => pure r89))
else
(potS >>= fun s99 => potW (fun s => { s with turn := ((PotT.turn s99) + (1 : Int)) }) >>= fun _ =>
potS >>= fun s107 => potS >>= fun s108 => Mir.lft (grd (Sm (PotT.turn s108) ∧ Sm (2654435761 : Int))) >>= fun _ => Mir.lft (grd (0 < (4294967279 : Int))) >>= fun _ => bnd (((PotT.mix s107) + ((PotT.turn s108) * (2654435761 : Int))) % (4294967279 : Int)) fun number109 =>
Mir.lft (grd (Sm number109 ∧ Sm number109)) >>= fun _ => potS >>= fun s119 => Mir.lft (grd (Sm (PotT.turn s119) ∧ Sm (40503 : Int))) >>= fun _ => Mir.lft (grd (0 < (4294967231 : Int))) >>= fun _ => bnd ((((number109 * number109) + ((PotT.turn s119) * (40503 : Int))) + (5 : Int)) % (4294967231 : Int)) fun number120 =>
Mir.lft (grd (Sm number120 ∧ Sm number120)) >>= fun _ => potS >>= fun s130 => Mir.lft (grd (0 < (4294967291 : Int))) >>= fun _ => bnd (((number120 * number120) + (PotT.mix s130)) % (4294967291 : Int)) fun number131 =>
Mir.lft (grd (Dv (256 : Int))) >>= fun _ => Mir.lft (grd (0 < p_many)) >>= fun _ => bnd ((number131 / (256 : Int)) % p_many) fun r148 => pure r148))
noncomputable abbrev fm__law_of : (Unit × Int) → PM PotT Int := fun (_, a1) => m__law_of a1
abbrev sp__law_of (K : PySem.W.Frag) : Sp := spV (fun i => potPt i) fm__law_of (fun i => (aCons (rP i) (aOne rI))) rI
section
variable {P : Program} {w : World} {K : PySem.W.Frag} {mg : Str → Option Value} {base : Heap}
theorem g__law_of (T : Tx mg base)  {f : Addr} {fd : FuncData} (F : Fun K "_law_of" "_law_of" t__law_of f fd) : FnG P w K mg base CX0 1 f fd ["pot", "many"] (sp__law_of K) := by
  refine okG0 F sc__law_of (fun vs H Q E h => ?_) (fun cdv A outer s0_ H0 vs Q E hr gd h => ?_)
  · obtain ⟨_, _, _, _, _, _, _, _, ⟨_, _, rfl, _, ⟨_, rfl, _⟩⟩, _⟩ := h
    rfl
  · obtain ⟨i, a, S0, s0, r, s', e0, p0, ⟨_, _, rfl, rfl, ⟨_, rfl, rfl⟩⟩, hm0, fin0⟩ := h
    obtain ⟨_, p_many⟩ := a
    have fin : ∀ v {H' : Hp}, (∃ S', Gm ((potPt i)).M S0 H0 S' H' ∧ PotAt (potPt i) s' S' H' ∧ rI r v S') → Q v H' := fun v {H'} ⟨S', h1, h2, h3⟩ => fin0 v S' H' h1 h2 h3
    have w0 : Wd (potPt i) S0 H0 S0 H0 [] := Wd.start e0
    have hm0 : Mir.run (m__law_of p_many) s0 = some (r, s') := hm0
    unfold m__law_of at hm0
    have sc := sc__law_of
    refine ⟨_, pss_cons (ps_if (pt_cmpR op_lt (pv 1) (pe_int) (nomark _)) (pss_cons (ps_ret (pe_int)) (pss_nil)) (pss_nil)) (pss_cons (ps_if (pt_cmpR (k_neD K hr) (pe_ix (k_ixL K) (pv 0) (pe_int) (fun _ _ => rfl)) (pe_lst pa_nil) (nomark _)) (pss_cons (ps_set (i := 3) sc.nd rfl (by first | exact Or.inl rfl | exact Or.inr rfl) (pe_bm0 PySem.F.plainAttrs_list PySem.F.slot_list_pop PySem.F.type_list_pop mt_pop (pe_ix (k_ixL K) (pv 0) (pe_int) (fun _ _ => rfl)))) (pss_cons (ps_if (pt_cmpR op_ge (pv 3) (pv 1) (nomark _)) (pss_cons (ps_expr (pe_bm PySem.F.plainAttrs_list PySem.F.slot_list_append PySem.F.type_list_append mt_append (pe_ix (k_ixL K) (pv 0) (pe_int) (fun _ _ => rfl)) (pa_cons (pe_op op_fdivW (pv 3) (pv 1)) pa_nil))) (pss_nil)) (pss_nil)) (pss_cons (ps_ret (pe_op op_mod (pv 3) (pv 1))) (pss_nil)))) (pss_nil)) (pss_cons (ps_asg (pe_op op_add (pe_ix (k_ixL K) (pv 0) (pe_int) (fun _ _ => rfl)) (pe_int)) (pg_sub (pv 0) pe_int set_list)) (pss_cons (ps_set (i := 2) sc.nd rfl (by first | exact Or.inl rfl | exact Or.inr rfl) (pe_op op_mod (pe_op op_add (pe_ix (k_ixL K) (pv 0) (pe_int) (fun _ _ => rfl)) (pe_op op_mulX (pe_ix (k_ixL K) (pv 0) (pe_int) (fun _ _ => rfl)) (pe_int))) (pe_int))) (pss_cons (ps_set (i := 2) sc.nd rfl (by first | exact Or.inl rfl | exact Or.inr rfl) (pe_op op_mod (pe_op op_add (pe_op op_add (pe_op op_mulX (pv 2) (pv 2)) (pe_op op_mulX (pe_ix (k_ixL K) (pv 0) (pe_int) (fun _ _ => rfl)) (pe_int))) (pe_int)) (pe_int))) (pss_cons (ps_set (i := 2) sc.nd rfl (by first | exact Or.inl rfl | exact Or.inr rfl) (pe_op op_mod (pe_op op_add (pe_op op_mulX (pv 2) (pv 2)) (pe_ix (k_ixL K) (pv 0) (pe_int) (fun _ _ => rfl))) (pe_int))) (pss_cons (ps_ret (pe_op op_mod (pe_op op_fdivW (pv 2) (pe_int)) (pv 1))) (pss_nil))))))), ?_⟩
    refine q_if w0 p0 (t_Test (e_lt (e_var (R := rI) rfl rfl) e_cI)) hm0 ?_ ?_
    · intro S1 H2 s3 w4 p5 g6 hm7
      refine q_ret w4 p5 e_cI hm7 ?_
      intro r15 v16 S8 H9 s10 w11 p12 g14 rr17 hm13
      cases run_of_pure hm13
      exact fin _ ⟨S8, w11.g, p12, rr17⟩
    · intro S18 H19 s20 w21 p22 g23 hm24
      refine nx_done ?_
      refine q_if w21 p22 (t_Test (e_neG (dL_G rfl))) hm24 ?_ ?_
      · intro S27 H28 s29 w30 p31 g32 hm33
        refine q_set (fun v => [some (.ref i.a), some (.int p_many), none, some v]) (fun _ => rfl) w30 p31 (e_popL (dL_G rfl)) hm33 ?_
        intro cell36 vcell44 S37 H38 s39 w40 p41 g43 rcell45 hm42
        cases (show vcell44 = .int cell36 from rcell45)
        refine q_ifj (p := (potPt i)) (fun st46 σ S' H' s' => σ = [some (.ref i.a), some (.int p_many), none, some (.int cell36)] ∧ Wd (potPt i) S0 H0 S' H' [] ∧ PotAt (potPt i) s' S' H' ∧ Ex S37 S') w40 p41 (t_Test (e_ge (e_var (R := rI) rfl rfl) (e_var (R := rI) rfl rfl))) hm42 ?_ ?_ ?_
        · intro S47 H48 s49 st46_ s2_ D_ w50 p51 g52 hm53 nx54
          have eb55 := g52.s
          refine q_dropE w50 p51 (e_appG (dL_G rfl) (e_fdiv (e_var (R := rI) rfl rfl) (e_var (R := rI) rfl rfl))) hm53 ?_
          intro x65 S58 H59 s60 w61 p62 g64 hm63
          have eb55 := eb55.tr g64.s
          cases run_of_pure hm63
          exact nx54 _ _ _ ⟨rfl, w61, p62, eb55⟩
        · intro S66 H67 s68 st46_ s2_ D_ w69 p70 g71 hm72 nx73
          have eb74 := g71.s
          cases run_of_pure hm72
          exact nx73 _ _ _ ⟨rfl, w69, p70, eb74⟩
        · rintro st46 _ S78 H79 s80 ⟨rfl, w75, p76, eb77⟩ hm81
          refine q_ret w75 p76 (e_mod (e_var (R := rI) rfl rfl) (e_var (R := rI) rfl rfl)) hm81 ?_
          intro r89 v90 S82 H83 s84 w85 p86 g88 rr91 hm87
          cases run_of_pure hm87
          exact fin _ ⟨S82, w85.g, p86, rr91⟩
      · intro S92 H93 s94 w95 p96 g97 hm98
        refine nx_done ?_
        refine qL_T w95 p96 rfl (e_add (dL_T rfl) e_cI) hm98 ?_
        intro S100 H101 s102 w103 p104 g106 hm105
        refine q_set (fun v => [some (.ref i.a), some (.int p_many), some v, none]) (fun _ => rfl) w103 p104 (e_mod (e_add (dL_S rfl) (e_mul (dL_T rfl) e_cI)) e_cI) hm105 ?_
        intro number109 vnumber117 S110 H111 s112 w113 p114 g116 rnumber118 hm115
        cases (show vnumber117 = .int number109 from rnumber118)
        refine q_set (fun v => [some (.ref i.a), some (.int p_many), some v, none]) (fun _ => rfl) w113 p114 (e_mod (e_add (e_add (e_mul (e_var (R := rI) rfl rfl) (e_var (R := rI) rfl rfl)) (e_mul (dL_T rfl) e_cI)) e_cI) e_cI) hm115 ?_
        intro number120 vnumber128 S121 H122 s123 w124 p125 g127 rnumber129 hm126
        cases (show vnumber128 = .int number120 from rnumber129)
        refine q_set (fun v => [some (.ref i.a), some (.int p_many), some v, none]) (fun _ => rfl) w124 p125 (e_mod (e_add (e_mul (e_var (R := rI) rfl rfl) (e_var (R := rI) rfl rfl)) (dL_S rfl)) e_cI) hm126 ?_
        intro number131 vnumber139 S132 H133 s134 w135 p136 g138 rnumber140 hm137
        cases (show vnumber139 = .int number131 from rnumber140)
        refine q_ret w135 p136 (e_mod (e_fdiv (e_var (R := rI) rfl rfl) e_cI) (e_var (R := rI) rfl rfl)) hm137 ?_
        intro r148 v149 S141 H142 s143 w144 p145 g147 rr150 hm146
        cases run_of_pure hm146
        exact fin _ ⟨S141, w144.g, p145, rr150⟩
end
abbrev t__law_one : Stmt := top 42
theorem sc__law_one : FnScope ["pot", "items"] ["pot", "items"] (defScope t__law_one) := ⟨rfl, rfl, rfl, by decide +kernel, rfl, by decide +kernel, by decide +kernel⟩
@[irreducible] noncomputable def m__law_one (p_items : (List Int)) : PM PotT Int :=
m__law_of (List.length p_items : Int) >>= fun r12 => Mir.lft (L2.atI p_items r12) >>= fun y11 => bnd y11 fun r8 => pure r8
noncomputable abbrev fm__law_one : (Unit × (List Int)) → PM PotT Int := fun (_, a1) => m__law_one a1
abbrev sp__law_one (K : PySem.W.Frag) : Sp := spV (fun i => potPt i) fm__law_one (fun i => (aCons (rP i) (aOne (rL (aAll rI))))) rI
section
variable {P : Program} {w : World} {K : PySem.W.Frag} {mg : Str → Option Value} {base : Heap}
theorem g__law_one (T : Tx mg base) (D0 : Dk P w K mg base "_law_of" "_law_of" t__law_of 1 ["pot", "many"] (sp__law_of K)) {f : Addr} {fd : FuncData} (F : Fun K "_law_one" "_law_one" t__law_one f fd) : FnG P w K mg base CX0 2 f fd ["pot", "items"] (sp__law_one K) := by
  obtain ⟨f0, fd0, F0, m0, G0, b0⟩ := D0
  refine okG0 F sc__law_one (fun vs H Q E h => ?_) (fun cdv A outer s0_ H0 vs Q E hr gd h => ?_)
  · obtain ⟨_, _, _, _, _, _, _, _, ⟨_, _, rfl, _, ⟨_, rfl, _⟩⟩, _⟩ := h
    rfl
  · obtain ⟨i, a, S0, s0, r, s', e0, p0, ⟨_, _, rfl, rfl, ⟨v_items, rfl, r_items⟩⟩, hm0, fin0⟩ := h
    obtain ⟨_, p_items⟩ := a
    have fin : ∀ v {H' : Hp}, (∃ S', Gm ((potPt i)).M S0 H0 S' H' ∧ PotAt (potPt i) s' S' H' ∧ rI r v S') → Q v H' := fun v {H'} ⟨S', h1, h2, h3⟩ => fin0 v S' H' h1 h2 h3
    have w0 : Wd (potPt i) S0 H0 S0 H0 [] := Wd.start e0
    have hm0 : Mir.run (m__law_one p_items) s0 = some (r, s') := hm0
    unfold m__law_one at hm0
    have sc := sc__law_one
    refine ⟨_, pss_cons (ps_ret (pe_ix (k_ixL K) (pv 1) (pe_cG G0 (hr.mono (by decide)) gd rfl m0 F0.kp b0 pass0 (pa_cons (pv 0) (pa_cons (pe_callB (k_len K) (by rfl) T.n_len (by decide +kernel) (pa_cons (pv 1) pa_nil)) (pa_nil)))) (fun _ _ => rfl))) (pss_nil), ?_⟩
    refine q_ret w0 p0 (e_ixL (Ev.rd (e_var rfl r_items)) (Ev.eta (e_callP (F := fun i => potPt i) (i := i) (A := fun i => (aCons (rP i) (aOne rI))) (E := E0) (fm := fm__law_of) (R := rI) (a_cons (e_var (R := rP i) (a := ()) rfl rfl) (a_one (c_lenL (Ev.rd (e_var rfl r_items)))))))) hm0 ?_
    intro r8 v9 S1 H2 s3 w4 p5 g7 rr10 hm6
    cases run_of_pure hm6
    exact fin _ ⟨S1, w4.g, p5, rr10⟩
end
abbrev t__law_common : Stmt := top 43
theorem sc__law_common : FnScope ["a", "b"] ["a", "b"] (defScope t__law_common) := ⟨rfl, rfl, rfl, by decide +kernel, rfl, by decide +kernel, by decide +kernel⟩
@[irreducible] noncomputable def m__law_common (p_a : Int) (p_b : Int) : Option Int :=
(whS many (fun (st1 : Int × Int) k => k (decide ((0 : Int) < st1.2))) (fun (st1 : Int × Int) =>
bnd st1.2 fun a32 =>
Mir.lft (grd (0 < st1.2)) >>= fun _ => bnd (st1.1 % st1.2) fun b42 =>
pure (a32, b42)) (p_a, p_b)) >>= fun (st1 : Int × Int) =>
bnd st1.1 fun r66 => pure r66
noncomputable abbrev fm__law_common : (Int × Int) → Option Int := fun (a0, a1) => m__law_common a0 a1
abbrev sp__law_common (K : PySem.W.Frag) : Sp := spV F0 fm__law_common (fun _ => (aCons rI (aOne rI))) rI
section
variable {P : Program} {w : World} {K : PySem.W.Frag} {mg : Str → Option Value} {base : Heap}
theorem g__law_common (T : Tx mg base)  {f : Addr} {fd : FuncData} (F : Fun K "_law_common" "_law_common" t__law_common f fd) : FnG P w K mg base CX0 1 f fd ["a", "b"] (sp__law_common K) := by
  refine okG0 F sc__law_common (fun vs H Q E h => ?_) (fun cdv A outer s0_ H0 vs Q E hr gd h => ?_)
  · obtain ⟨_, _, _, _, _, _, _, _, ⟨_, _, rfl, _, ⟨_, rfl, _⟩⟩, _⟩ := h
    rfl
  · obtain ⟨_, a, S0, s0, r, s', e0, p0, ⟨_, _, rfl, rfl, ⟨_, rfl, rfl⟩⟩, hm0, fin0⟩ := h
    obtain ⟨p_a, p_b⟩ := a
    have fin : ∀ v {H' : Hp}, (∃ S', Gm (pt0).M S0 H0 S' H' ∧ PotAt pt0 s' S' H' ∧ rI r v S') → Q v H' := fun v {H'} ⟨S', h1, h2, h3⟩ => fin0 v S' H' h1 h2 h3
    have w0 : Wd pt0 S0 H0 S0 H0 [] := Wd.start e0
    have hm0 : Mir.run (m__law_common p_a p_b) s0 = some (r, s') := hm0
    unfold m__law_common at hm0
    have sc := sc__law_common
    refine ⟨_, pss_cons (ps_while PassesOwn.never (pt_cmpR op_gt (pv 1) (pe_int) (nomark _)) (pss_cons (ps_par (i := 0) (j := 1) rfl sc.nd rfl rfl (by decide) rfl rfl (pa_cons (pv 1) (pa_cons (pe_op op_mod (pe_callTy call_int1 (by rfl) T.n_int (by decide +kernel) (pa_cons (pv 0) pa_nil)) (pv 1)) (pa_nil))) (by rfl)) (pss_nil))) (pss_cons (ps_ret (pv 0)) (pss_nil)), ?_⟩
    refine q_wh (p := pt0) (fun st1 σ S' H' s' => σ = [some (.int st1.1), some (.int st1.2)] ∧ Wd pt0 S0 H0 S' H' [] ∧ PotAt pt0 s' S' H' ∧ Ex S0 S') ⟨rfl, w0, p0, Ex.rf⟩ hm0 ?_ ?_ ?_ ?_
    · rintro st1 _ S7 H8 s9 ⟨rfl, w4, p5, eb6⟩
      exact ⟨p5, w4.i, (t_Test (e_gt (e_var (R := rI) rfl rfl) e_cI))⟩
    · rintro st1 _ S13 H14 s15 S16 H17 s18 ⟨rfl, w10, p11, eb12⟩ g19 p20
      exact ⟨rfl, w10.go g19, p20, eb12.tr g19.s⟩
    · rintro st1 _ S24 H25 s26 st1_ s2_ D_ ⟨rfl, w21, p22, eb23⟩ hm27 nx28
      refine par_go ?_
      refine x_ev w21 p22 (e_var (R := rI) rfl rfl) hm27 ?_
      intro a32 va40 S33 H34 s35 w36 p37 g39 ra41 hm38
      cases (show va40 = .int a32 from ra41)
      have eb23 := eb23.tr g39.s
      refine x_ev w36 p37 (e_mod (c_int (e_var (R := rI) rfl rfl)) (e_var (R := rI) rfl rfl)) hm38 ?_
      intro b42 vb50 S43 H44 s45 w46 p47 g49 rb51 hm48
      cases (show vb50 = .int b42 from rb51)
      have eb23 := eb23.tr g49.s
      refine par_end [some (.int a32), some (.int b42)] rfl ?_
      cases run_of_pure hm48
      exact (nx28 _ _ _ ⟨rfl, w46, p47, eb23⟩).1
    · rintro st1 _ S55 H56 s57 ⟨rfl, w52, p53, eb54⟩ hm58
      refine q_ret w52 p53 (e_var (R := rI) rfl rfl) hm58 ?_
      intro r66 v67 S59 H60 s61 w62 p63 g65 rr68 hm64
      cases run_of_pure hm64
      exact fin _ ⟨S59, w62.g, p63, rr68⟩
end
abbrev t__law_primes : Stmt := top 44
theorem sc__law_primes : FnScope ["number", "found", "p", "often"] ["number"] (defScope t__law_primes) := ⟨rfl, rfl, rfl, by decide +kernel, rfl, by decide +kernel, by decide +kernel⟩
@[irreducible] noncomputable def m__law_primes (p_number : Int) : Option (List (Int × Int)) :=
Mir.lft (grd (List.length ([] : List (Int × Int)) ≤ 16000000)) >>= fun _ => bnd ([] : List (Int × Int)) fun found1 =>
bnd (2 : Int) fun p12 =>
(whS many (fun (st22 : Int × (List (Int × Int)) × Int) k => Mir.lft (grd (Sm st22.2.2 ∧ Sm st22.2.2)) >>= fun _ => k (decide ((st22.2.2 * st22.2.2) ≤ st22.1))) (fun (st22 : Int × (List (Int × Int)) × Int) =>
bnd (0 : Int) fun often65 =>
(whS many (fun (st75 : Int × Int) k => Mir.lft (grd (0 < st22.2.2)) >>= fun _ => k (decide ((st75.1 % st22.2.2) = (0 : Int)))) (fun (st75 : Int × Int) =>
bnd (st75.2 + (1 : Int)) fun often106 =>
Mir.lft (grd (Dv st22.2.2)) >>= fun _ => bnd (st75.1 / st22.2.2) fun number116 =>
pure (number116, often106)) (st22.1, often65)) >>= fun (st75 : Int × Int) =>
(if (decide ((0 : Int) < st75.2)) = true then Mir.lft (grd (List.length ([(st22.2.2, st75.2)] : List (Int × Int)) ≤ 16000000)) >>= fun _ => pure ([(st22.2.2, st75.2)] : List (Int × Int)) else Mir.lft (grd (List.length ([] : List (Int × Int)) ≤ 16000000)) >>= fun _ => pure ([] : List (Int × Int))) >>= fun c153 => Mir.lft (grd (List.length st22.2.1 + List.length c153 ≤ 16000000)) >>= fun _ => bnd (st22.2.1 ++ c153) fun found133 =>
bnd (if (decide (st22.2.2 = (2 : Int))) = true then (st22.2.2 + (1 : Int)) else (st22.2.2 + (2 : Int))) fun p143 =>
pure (st75.1, found133, p143)) (p_number, found1, p12)) >>= fun (st22 : Int × (List (Int × Int)) × Int) =>
(if (decide ((1 : Int) < st22.1)) = true then Mir.lft (grd (List.length ([(st22.1, (1 : Int))] : List (Int × Int)) ≤ 16000000)) >>= fun _ => pure ([(st22.1, (1 : Int))] : List (Int × Int)) else Mir.lft (grd (List.length ([] : List (Int × Int)) ≤ 16000000)) >>= fun _ => pure ([] : List (Int × Int))) >>= fun c178 => Mir.lft (grd (List.length st22.2.1 + List.length c178 ≤ 16000000)) >>= fun _ => bnd (st22.2.1 ++ c178) fun r175 => pure r175
noncomputable abbrev fm__law_primes : (Int) → Option (List (Int × Int)) := fun a => m__law_primes a
abbrev sp__law_primes (K : PySem.W.Frag) : Sp := spV F0 fm__law_primes (fun _ => (aOne rI)) (rT K (aAll (rT K (aCons rI (aOne rI)))))
section
variable {P : Program} {w : World} {K : PySem.W.Frag} {mg : Str → Option Value} {base : Heap}
theorem g__law_primes (T : Tx mg base)  {f : Addr} {fd : FuncData} (F : Fun K "_law_primes" "_law_primes" t__law_primes f fd) : FnG P w K mg base CX0 1 f fd ["number"] (sp__law_primes K) := by
  refine okG0 F sc__law_primes (fun vs H Q E h => ?_) (fun cdv A outer s0_ H0 vs Q E hr gd h => ?_)
  · obtain ⟨_, _, _, _, _, _, _, _, ⟨_, rfl, _⟩, _⟩ := h
    rfl
  · obtain ⟨_, p_number, S0, s0, r, s', e0, p0, ⟨_, rfl, rfl⟩, hm0, fin0⟩ := h
    have fin : ∀ v {H' : Hp}, (∃ S', Gm (pt0).M S0 H0 S' H' ∧ PotAt pt0 s' S' H' ∧ (rT K (aAll (rT K (aCons rI (aOne rI))))) r v S') → Q v H' := fun v {H'} ⟨S', h1, h2, h3⟩ => fin0 v S' H' h1 h2 h3
    have w0 : Wd pt0 S0 H0 S0 H0 [] := Wd.start e0
    have hm0 : Mir.run (m__law_primes p_number) s0 = some (r, s') := hm0
    unfold m__law_primes at hm0
    have sc := sc__law_primes
    refine ⟨_, pss_cons (ps_par (i := 1) (j := 2) rfl sc.nd rfl rfl (by decide) rfl rfl (pa_cons (pe_lst (pa_nil)) (pa_cons (pe_int) (pa_nil))) (by rfl)) (pss_cons (ps_while PassesOwn.never (pt_cmpR op_le (pe_op op_mulX (pv 2) (pv 2)) (pv 0) (nomark _)) (pss_cons (ps_set (i := 3) sc.nd rfl (by first | exact Or.inl rfl | exact Or.inr rfl) (pe_int)) (pss_cons (ps_while PassesOwn.never (pt_cmpR op_eq (pe_op op_mod (pv 0) (pv 2)) (pe_int) (nomark _)) (pss_cons (ps_par (i := 3) (j := 0) rfl sc.nd rfl rfl (by decide) rfl rfl (pa_cons (pe_op op_add (pv 3) (pe_int)) (pa_cons (pe_op op_fdivW (pv 0) (pv 2)) (pa_nil))) (by rfl)) (pss_nil))) (pss_cons (ps_expr (pe_bm PySem.F.plainAttrs_list PySem.F.slot_list_extend PySem.F.type_list_extend mt_extend (pv 1) (pa_cons (pe_ifExp (pt_cmpR op_gt (pv 3) (pe_int) (nomark _)) (pe_lst (pa_cons (pe_tup (pa_cons (pv 2) (pa_cons (pv 3) (pa_nil)))) (pa_nil))) (pe_lst (pa_nil))) pa_nil))) (pss_cons (ps_set (i := 2) sc.nd rfl (by first | exact Or.inl rfl | exact Or.inr rfl) (pe_ifExp (pt_cmpR op_eq (pv 2) (pe_int) (nomark _)) (pe_op op_add (pv 2) (pe_int)) (pe_op op_add (pv 2) (pe_int)))) (pss_nil)))))) (pss_cons (ps_ret (pe_callTy (k_tupOf K) (by rfl) T.n_tuple (by decide +kernel) (pa_cons (pe_op op_cat (pv 1) (pe_ifExp (pt_cmpR op_gt (pv 0) (pe_int) (nomark _)) (pe_lst (pa_cons (pe_tup (pa_cons (pv 0) (pa_cons (pe_int) (pa_nil)))) (pa_nil))) (pe_lst (pa_nil)))) pa_nil))) (pss_nil))), ?_⟩
    refine par_go ?_
    refine x_evL w0 p0 (l_lstL (a_nilL (R := (rT K (aCons rI (aOne rI)))))) hm0 ?_
    intro found1 q9 vs10 S2 H3 s4 w5 p6 g8 rfound11 hm7
    have rfound11 : All (rT K (aCons rI (aOne rI))) _ _ _ := rfound11
    refine x_ev w5 p6 e_cI hm7 ?_
    intro p12 vp20 S13 H14 s15 w16 p17 g19 rp21 hm18
    cases (show vp20 = .int p12 from rp21)
    have rfound11 := All.mo g19.s rfound11
    refine par_end [some (.int p_number), some (.ref q9), some (.int p12), none] rfl ?_
    refine q_wh (p := pt0) (fun st22 σ S' H' s' => ∃ (qfound_ : Addr) (usfound_ : List V) (xoften_ : Option V), σ = [some (.int st22.1), some (.ref qfound_), some (.int st22.2.2), xoften_] ∧ Wd pt0 S0 H0 S' H' [(qfound_, .lst usfound_)] ∧ PotAt pt0 s' S' H' ∧ Ex S13 S' ∧ All (rT K (aCons rI (aOne rI))) S' st22.2.1 usfound_) ⟨_, _, _, rfl, w16, p17, Ex.rf, rfound11⟩ hm18 ?_ ?_ ?_ ?_
    · rintro st22 _ S32 H33 s34 ⟨qfound25, usfound26, xoften27, rfl, w29, p30, eb31, rfound28⟩
      exact ⟨p30, w29.i, (t_Test (e_le (e_mul (e_var (R := rI) rfl rfl) (e_var (R := rI) rfl rfl)) (e_var (R := rI) rfl rfl)))⟩
    · rintro st22 _ S42 H43 s44 S45 H46 s47 ⟨qfound35, usfound36, xoften37, rfl, w39, p40, eb41, rfound38⟩ g48 p49
      exact ⟨_, _, _, rfl, w39.go g48, p49, eb41.tr g48.s, All.mo g48.s rfound38⟩
    · rintro st22 _ S57 H58 s59 st22_ s2_ D_ ⟨qfound50, usfound51, xoften52, rfl, w54, p55, eb56, rfound53⟩ hm60 nx61
      refine q_set (fun v => [some (.int st22.1), some (.ref qfound50), some (.int st22.2.2), some v]) (fun _ => rfl) w54 p55 e_cI hm60 ?_
      intro often65 voften73 S66 H67 s68 w69 p70 g72 roften74 hm71
      cases (show voften73 = .int often65 from roften74)
      have rfound53 := All.mo g72.s rfound53
      have eb56 := eb56.tr g72.s
      refine q_wh (p := pt0) (fun st75 σ S' H' s' => σ = [some (.int st75.1), some (.ref qfound50), some (.int st22.2.2), some (.int st75.2)] ∧ Wd pt0 S0 H0 S' H' [(qfound50, .lst usfound51)] ∧ PotAt pt0 s' S' H' ∧ Ex S66 S') ⟨rfl, w69, p70, Ex.rf⟩ hm71 ?_ ?_ ?_ ?_
      · rintro st75 _ S81 H82 s83 ⟨rfl, w78, p79, eb80⟩
        have rfound53 := All.mo eb80 rfound53
        have eb56 := eb56.tr eb80
        exact ⟨p79, w78.i, (t_Test (e_eq (e_mod (e_var (R := rI) rfl rfl) (e_var (R := rI) rfl rfl)) e_cI))⟩
      · rintro st75 _ S87 H88 s89 S90 H91 s92 ⟨rfl, w84, p85, eb86⟩ g93 p94
        exact ⟨rfl, w84.go g93, p94, eb86.tr g93.s⟩
      · rintro st75 _ S98 H99 s100 st75_ s2_ D_ ⟨rfl, w95, p96, eb97⟩ hm101 nx102
        have rfound53 := All.mo eb97 rfound53
        have eb56 := eb56.tr eb97
        refine par_go ?_
        refine x_ev w95 p96 (e_add (e_var (R := rI) rfl rfl) e_cI) hm101 ?_
        intro often106 voften114 S107 H108 s109 w110 p111 g113 roften115 hm112
        cases (show voften114 = .int often106 from roften115)
        have rfound53 := All.mo g113.s rfound53
        have eb56 := eb56.tr g113.s
        have eb97 := eb97.tr g113.s
        refine x_ev w110 p111 (e_fdiv (e_var (R := rI) rfl rfl) (e_var (R := rI) rfl rfl)) hm112 ?_
        intro number116 vnumber124 S117 H118 s119 w120 p121 g123 rnumber125 hm122
        cases (show vnumber124 = .int number116 from rnumber125)
        have rfound53 := All.mo g123.s rfound53
        have eb56 := eb56.tr g123.s
        have eb97 := eb97.tr g123.s
        refine par_end [some (.int number116), some (.ref qfound50), some (.int st22.2.2), some (.int often106)] rfl ?_
        cases run_of_pure hm122
        exact (nx102 _ _ _ ⟨rfl, w120, p121, eb97⟩).1
      · rintro st75 _ S129 H130 s131 ⟨rfl, w126, p127, eb128⟩ hm132
        have rfound53 := All.mo eb128 rfound53
        have eb56 := eb56.tr eb128
        refine q_ext (j := 0) w126 p127 rfl rfl rfound53 (l_if (α := (List (Int × Int))) (t_Test (e_gt (e_var (R := rI) rfl rfl) e_cI)) (l_lstL (a_consL (e_tup (K := K) (a_cons (e_var (R := rI) rfl rfl) (a_one (e_var (R := rI) rfl rfl))) (arN_cons arN_one) (by decide)) (a_nilL (R := (rT K (aCons rI (aOne rI))))))) (l_lstL (a_nilL (R := (rT K (aCons rI (aOne rI))))))) hm132 ?_
        intro found133 vs134 S136 H137 s138 w139 p140 e142 rfound135 hm141
        have eb56 := eb56.tr e142
        refine q_set (fun v => [some (.int st75.1), some (.ref qfound50), some v, some (.int st75.2)]) (fun _ => rfl) w139 p140 (e_ifT (R := rI) (t_Test (e_eq (e_var (R := rI) rfl rfl) e_cI)) (e_add (e_var (R := rI) rfl rfl) e_cI) (e_add (e_var (R := rI) rfl rfl) e_cI)) hm141 ?_
        intro p143 vp151 S144 H145 s146 w147 p148 g150 rp152 hm149
        cases (show vp151 = .int p143 from rp152)
        have rfound135 := All.mo g150.s rfound135
        have eb56 := eb56.tr g150.s
        cases run_of_pure hm149
        exact (nx61 _ _ _ ⟨_, _, _, rfl, w147, p148, eb56, rfound135⟩).1
    · rintro st22 _ S164 H165 s166 ⟨qfound157, usfound158, xoften159, rfl, w161, p162, eb163, rfound160⟩ hm167
      refine q_ret w161 p162 (c_tup (K := K) (EvL.rd (l_cat (w_own (A := (aAll (rT K (aCons rI (aOne rI))))) (j := 0) w161 rfl rfl rfound160) (EvL.rd (l_if (α := (List (Int × Int))) (t_Test (e_gt (e_var (R := rI) rfl rfl) e_cI)) (l_lstL (a_consL (e_tup (K := K) (a_cons (e_var (R := rI) rfl rfl) (a_one e_cI)) (arN_cons arN_one) (by decide)) (a_nilL (R := (rT K (aCons rI (aOne rI))))))) (l_lstL (a_nilL (R := (rT K (aCons rI (aOne rI))))))))))) hm167 ?_
      intro r175 v176 S168 H169 s170 w171 p172 g174 rr177 hm173
      cases run_of_pure hm173
      exact fin _ ⟨S168, w171.g, p172, rr177⟩
end
abbrev t__law_rest : Stmt := top 45
theorem sc__law_rest : FnScope ["number", "e", "n", "found", "own"] ["number", "e", "n"] (defScope t__law_rest) := ⟨rfl, rfl, rfl, by decide +kernel, rfl, by decide +kernel, by decide +kernel⟩
@[irreducible] noncomputable def m__law_rest (p_number : Int) (p_e : Int) (p_n : Int) : Option Int :=
bnd (1 : Int) fun found1 =>
Mir.lft (grd (0 < p_n)) >>= fun _ => bnd (p_number % p_n) fun own11 =>
(whS many (fun (st21 : Int × Int × Int) k => k (decide ((0 : Int) < st21.1))) (fun (st21 : Int × Int × Int) =>
Mir.lft (grd (0 < (2 : Int))) >>= fun _ => ((if (decide ((st21.1 % (2 : Int)) = (1 : Int))) = true then
(Mir.lft (grd (Sm st21.2.1 ∧ Sm st21.2.2)) >>= fun _ => Mir.lft (grd (0 < p_n)) >>= fun _ => bnd ((st21.2.1 * st21.2.2) % p_n) fun found62 =>
pure found62)
else
(pure st21.2.1)) >>= fun (st52 : Int) =>
Mir.lft (grd (Sm st21.2.2 ∧ Sm st21.2.2)) >>= fun _ => Mir.lft (grd (0 < p_n)) >>= fun _ => bnd ((st21.2.2 * st21.2.2) % p_n) fun own88 =>
Mir.lft (grd (Dv (2 : Int))) >>= fun _ => bnd (st21.1 / (2 : Int)) fun e98 =>
pure (e98, st52, own88))) (p_e, found1, own11)) >>= fun (st21 : Int × Int × Int) =>
Mir.lft (grd (0 < p_n)) >>= fun _ => bnd (st21.2.1 % p_n) fun r122 => pure r122
noncomputable abbrev fm__law_rest : (Int × Int × Int) → Option Int := fun (a0, a1, a2) => m__law_rest a0 a1 a2
abbrev sp__law_rest (K : PySem.W.Frag) : Sp := spV F0 fm__law_rest (fun _ => (aCons rI (aCons rI (aOne rI)))) rI
section
variable {P : Program} {w : World} {K : PySem.W.Frag} {mg : Str → Option Value} {base : Heap}
theorem g__law_rest (T : Tx mg base)  {f : Addr} {fd : FuncData} (F : Fun K "_law_rest" "_law_rest" t__law_rest f fd) : FnG P w K mg base CX0 1 f fd ["number", "e", "n"] (sp__law_rest K) := by
  refine okG0 F sc__law_rest (fun vs H Q E h => ?_) (fun cdv A outer s0_ H0 vs Q E hr gd h => ?_)
  · obtain ⟨_, _, _, _, _, _, _, _, ⟨_, _, rfl, _, ⟨_, _, rfl, _, ⟨_, rfl, _⟩⟩⟩, _⟩ := h
    rfl
  · obtain ⟨_, a, S0, s0, r, s', e0, p0, ⟨_, _, rfl, rfl, ⟨_, _, rfl, rfl, ⟨_, rfl, rfl⟩⟩⟩, hm0, fin0⟩ := h
    obtain ⟨p_number, p_e, p_n⟩ := a
    have fin : ∀ v {H' : Hp}, (∃ S', Gm (pt0).M S0 H0 S' H' ∧ PotAt pt0 s' S' H' ∧ rI r v S') → Q v H' := fun v {H'} ⟨S', h1, h2, h3⟩ => fin0 v S' H' h1 h2 h3
    have w0 : Wd pt0 S0 H0 S0 H0 [] := Wd.start e0
    have hm0 : Mir.run (m__law_rest p_number p_e p_n) s0 = some (r, s') := hm0
    unfold m__law_rest at hm0
    have sc := sc__law_rest
    refine ⟨_, pss_cons (ps_par (i := 3) (j := 4) rfl sc.nd rfl rfl (by decide) rfl rfl (pa_cons (pe_int) (pa_cons (pe_op op_mod (pe_callTy call_int1 (by rfl) T.n_int (by decide +kernel) (pa_cons (pv 0) pa_nil)) (pv 2)) (pa_nil))) (by rfl)) (pss_cons (ps_while PassesOwn.never (pt_cmpR op_gt (pv 1) (pe_int) (nomark _)) (pss_cons (ps_if (pt_cmpR op_eq (pe_op op_mod (pv 1) (pe_int)) (pe_int) (nomark _)) (pss_cons (ps_set (i := 3) sc.nd rfl (by first | exact Or.inl rfl | exact Or.inr rfl) (pe_op op_mod (pe_callTy call_int1 (by rfl) T.n_int (by decide +kernel) (pa_cons (pe_op op_mulX (pv 3) (pv 4)) pa_nil)) (pv 2))) (pss_nil)) (pss_nil)) (pss_cons (ps_par (i := 4) (j := 1) rfl sc.nd rfl rfl (by decide) rfl rfl (pa_cons (pe_op op_mod (pe_callTy call_int1 (by rfl) T.n_int (by decide +kernel) (pa_cons (pe_op op_mulX (pv 4) (pv 4)) pa_nil)) (pv 2)) (pa_cons (pe_op op_fdivW (pv 1) (pe_int)) (pa_nil))) (by rfl)) (pss_nil)))) (pss_cons (ps_ret (pe_op op_mod (pe_callTy call_int1 (by rfl) T.n_int (by decide +kernel) (pa_cons (pv 3) pa_nil)) (pv 2))) (pss_nil))), ?_⟩
    refine par_go ?_
    refine x_ev w0 p0 e_cI hm0 ?_
    intro found1 vfound9 S2 H3 s4 w5 p6 g8 rfound10 hm7
    cases (show vfound9 = .int found1 from rfound10)
    refine x_ev w5 p6 (e_mod (c_int (e_var (R := rI) rfl rfl)) (e_var (R := rI) rfl rfl)) hm7 ?_
    intro own11 vown19 S12 H13 s14 w15 p16 g18 rown20 hm17
    cases (show vown19 = .int own11 from rown20)
    refine par_end [some (.int p_number), some (.int p_e), some (.int p_n), some (.int found1), some (.int own11)] rfl ?_
    refine q_wh (p := pt0) (fun st21 σ S' H' s' => σ = [some (.int p_number), some (.int st21.1), some (.int p_n), some (.int st21.2.1), some (.int st21.2.2)] ∧ Wd pt0 S0 H0 S' H' [] ∧ PotAt pt0 s' S' H' ∧ Ex S12 S') ⟨rfl, w15, p16, Ex.rf⟩ hm17 ?_ ?_ ?_ ?_
    · rintro st21 _ S27 H28 s29 ⟨rfl, w24, p25, eb26⟩
      exact ⟨p25, w24.i, (t_Test (e_gt (e_var (R := rI) rfl rfl) e_cI))⟩
    · rintro st21 _ S33 H34 s35 S36 H37 s38 ⟨rfl, w30, p31, eb32⟩ g39 p40
      exact ⟨rfl, w30.go g39, p40, eb32.tr g39.s⟩
    · rintro st21 _ S44 H45 s46 st21_ s2_ D_ ⟨rfl, w41, p42, eb43⟩ hm47 nx48
      refine q_ifj (p := pt0) (fun st52 σ S' H' s' => σ = [some (.int p_number), some (.int st21.1), some (.int p_n), some (.int st52), some (.int st21.2.2)] ∧ Wd pt0 S0 H0 S' H' [] ∧ PotAt pt0 s' S' H' ∧ Ex S44 S') w41 p42 (t_Test (e_eq (e_mod (e_var (R := rI) rfl rfl) e_cI) e_cI)) hm47 ?_ ?_ ?_
      · intro S53 H54 s55 st52_ s2_ D_ w56 p57 g58 hm59 nx60
        have eb43 := eb43.tr g58.s
        have eb61 := g58.s
        refine q_set (fun v => [some (.int p_number), some (.int st21.1), some (.int p_n), some v, some (.int st21.2.2)]) (fun _ => rfl) w56 p57 (e_mod (c_int (e_mul (e_var (R := rI) rfl rfl) (e_var (R := rI) rfl rfl))) (e_var (R := rI) rfl rfl)) hm59 ?_
        intro found62 vfound70 S63 H64 s65 w66 p67 g69 rfound71 hm68
        cases (show vfound70 = .int found62 from rfound71)
        have eb43 := eb43.tr g69.s
        have eb61 := eb61.tr g69.s
        cases run_of_pure hm68
        exact nx60 _ _ _ ⟨rfl, w66, p67, eb61⟩
      · intro S72 H73 s74 st52_ s2_ D_ w75 p76 g77 hm78 nx79
        have eb43 := eb43.tr g77.s
        have eb80 := g77.s
        cases run_of_pure hm78
        exact nx79 _ _ _ ⟨rfl, w75, p76, eb80⟩
      · rintro st52 _ S84 H85 s86 ⟨rfl, w81, p82, eb83⟩ hm87
        have eb43 := eb43.tr eb83
        refine par_go ?_
        refine x_ev w81 p82 (e_mod (c_int (e_mul (e_var (R := rI) rfl rfl) (e_var (R := rI) rfl rfl))) (e_var (R := rI) rfl rfl)) hm87 ?_
        intro own88 vown96 S89 H90 s91 w92 p93 g95 rown97 hm94
        cases (show vown96 = .int own88 from rown97)
        have eb43 := eb43.tr g95.s
        refine x_ev w92 p93 (e_fdiv (e_var (R := rI) rfl rfl) e_cI) hm94 ?_
        intro e98 ve106 S99 H100 s101 w102 p103 g105 re107 hm104
        cases (show ve106 = .int e98 from re107)
        have eb43 := eb43.tr g105.s
        refine par_end [some (.int p_number), some (.int e98), some (.int p_n), some (.int st52), some (.int own88)] rfl ?_
        cases run_of_pure hm104
        exact (nx48 _ _ _ ⟨rfl, w102, p103, eb43⟩).1
    · rintro st21 _ S111 H112 s113 ⟨rfl, w108, p109, eb110⟩ hm114
      refine q_ret w108 p109 (e_mod (c_int (e_var (R := rI) rfl rfl)) (e_var (R := rI) rfl rfl)) hm114 ?_
      intro r122 v123 S115 H116 s117 w118 p119 g121 rr124 hm120
      cases run_of_pure hm120
      exact fin _ ⟨S115, w118.g, p119, rr124⟩
end
abbrev t__law_order : Stmt := top 46
theorem sc__law_order : FnScope ["a", "n", "own", "k"] ["a", "n"] (defScope t__law_order) := ⟨rfl, rfl, rfl, by decide +kernel, rfl, by decide +kernel, by decide +kernel⟩
@[irreducible] noncomputable def m__law_order (p_a : Int) (p_n : Int) : Option Int :=
Mir.lft (grd (0 < p_n)) >>= fun _ => bnd (p_a % p_n) fun own1 =>
bnd (1 : Int) fun k11 =>
(whS many (fun (st21 : Int × Int) k => Mir.lft (grd (0 < p_n)) >>= fun _ => k (!decide (st21.1 = ((1 : Int) % p_n)))) (fun (st21 : Int × Int) =>
Mir.lft (grd (Sm st21.1 ∧ Sm p_a)) >>= fun _ => Mir.lft (grd (0 < p_n)) >>= fun _ => bnd ((st21.1 * p_a) % p_n) fun own52 =>
bnd (st21.2 + (1 : Int)) fun k62 =>
pure (own52, k62)) (own1, k11)) >>= fun (st21 : Int × Int) =>
bnd st21.2 fun r86 => pure r86
noncomputable abbrev fm__law_order : (Int × Int) → Option Int := fun (a0, a1) => m__law_order a0 a1
abbrev sp__law_order (K : PySem.W.Frag) : Sp := spV F0 fm__law_order (fun _ => (aCons rI (aOne rI))) rI
section
variable {P : Program} {w : World} {K : PySem.W.Frag} {mg : Str → Option Value} {base : Heap}
theorem g__law_order (T : Tx mg base)  {f : Addr} {fd : FuncData} (F : Fun K "_law_order" "_law_order" t__law_order f fd) : FnG P w K mg base CX0 1 f fd ["a", "n"] (sp__law_order K) := by
  refine okG0 F sc__law_order (fun vs H Q E h => ?_) (fun cdv A outer s0_ H0 vs Q E hr gd h => ?_)
  · obtain ⟨_, _, _, _, _, _, _, _, ⟨_, _, rfl, _, ⟨_, rfl, _⟩⟩, _⟩ := h
    rfl
  · obtain ⟨_, a, S0, s0, r, s', e0, p0, ⟨_, _, rfl, rfl, ⟨_, rfl, rfl⟩⟩, hm0, fin0⟩ := h
    obtain ⟨p_a, p_n⟩ := a
    have fin : ∀ v {H' : Hp}, (∃ S', Gm (pt0).M S0 H0 S' H' ∧ PotAt pt0 s' S' H' ∧ rI r v S') → Q v H' := fun v {H'} ⟨S', h1, h2, h3⟩ => fin0 v S' H' h1 h2 h3
    have w0 : Wd pt0 S0 H0 S0 H0 [] := Wd.start e0
    have hm0 : Mir.run (m__law_order p_a p_n) s0 = some (r, s') := hm0
    unfold m__law_order at hm0
    have sc := sc__law_order
    refine ⟨_, pss_cons (ps_par (i := 2) (j := 3) rfl sc.nd rfl rfl (by decide) rfl rfl (pa_cons (pe_op op_mod (pe_callTy call_int1 (by rfl) T.n_int (by decide +kernel) (pa_cons (pv 0) pa_nil)) (pv 1)) (pa_cons (pe_int) (pa_nil))) (by rfl)) (pss_cons (ps_while PassesOwn.never (pt_cmpR op_ne (pv 2) (pe_op op_mod (pe_callTy call_int1 (by rfl) T.n_int (by decide +kernel) (pa_cons (pe_int) pa_nil)) (pv 1)) (nomark _)) (pss_cons (ps_par (i := 2) (j := 3) rfl sc.nd rfl rfl (by decide) rfl rfl (pa_cons (pe_op op_mod (pe_callTy call_int1 (by rfl) T.n_int (by decide +kernel) (pa_cons (pe_op op_mulX (pv 2) (pv 0)) pa_nil)) (pv 1)) (pa_cons (pe_op op_add (pv 3) (pe_int)) (pa_nil))) (by rfl)) (pss_nil))) (pss_cons (ps_ret (pv 3)) (pss_nil))), ?_⟩
    refine par_go ?_
    refine x_ev w0 p0 (e_mod (c_int (e_var (R := rI) rfl rfl)) (e_var (R := rI) rfl rfl)) hm0 ?_
    intro own1 vown9 S2 H3 s4 w5 p6 g8 rown10 hm7
    cases (show vown9 = .int own1 from rown10)
    refine x_ev w5 p6 e_cI hm7 ?_
    intro k11 vk19 S12 H13 s14 w15 p16 g18 rk20 hm17
    cases (show vk19 = .int k11 from rk20)
    refine par_end [some (.int p_a), some (.int p_n), some (.int own1), some (.int k11)] rfl ?_
    refine q_wh (p := pt0) (fun st21 σ S' H' s' => σ = [some (.int p_a), some (.int p_n), some (.int st21.1), some (.int st21.2)] ∧ Wd pt0 S0 H0 S' H' [] ∧ PotAt pt0 s' S' H' ∧ Ex S12 S') ⟨rfl, w15, p16, Ex.rf⟩ hm17 ?_ ?_ ?_ ?_
    · rintro st21 _ S27 H28 s29 ⟨rfl, w24, p25, eb26⟩
      exact ⟨p25, w24.i, (t_Test (e_ne (e_var (R := rI) rfl rfl) (e_mod (c_int e_cI) (e_var (R := rI) rfl rfl))))⟩
    · rintro st21 _ S33 H34 s35 S36 H37 s38 ⟨rfl, w30, p31, eb32⟩ g39 p40
      exact ⟨rfl, w30.go g39, p40, eb32.tr g39.s⟩
    · rintro st21 _ S44 H45 s46 st21_ s2_ D_ ⟨rfl, w41, p42, eb43⟩ hm47 nx48
      refine par_go ?_
      refine x_ev w41 p42 (e_mod (c_int (e_mul (e_var (R := rI) rfl rfl) (e_var (R := rI) rfl rfl))) (e_var (R := rI) rfl rfl)) hm47 ?_
      intro own52 vown60 S53 H54 s55 w56 p57 g59 rown61 hm58
      cases (show vown60 = .int own52 from rown61)
      have eb43 := eb43.tr g59.s
      refine x_ev w56 p57 (e_add (e_var (R := rI) rfl rfl) e_cI) hm58 ?_
      intro k62 vk70 S63 H64 s65 w66 p67 g69 rk71 hm68
      cases (show vk70 = .int k62 from rk71)
      have eb43 := eb43.tr g69.s
      refine par_end [some (.int p_a), some (.int p_n), some (.int own52), some (.int k62)] rfl ?_
      cases run_of_pure hm68
      exact (nx48 _ _ _ ⟨rfl, w66, p67, eb43⟩).1
    · rintro st21 _ S75 H76 s77 ⟨rfl, w72, p73, eb74⟩ hm78
      refine q_ret w72 p73 (e_var (R := rI) rfl rfl) hm78 ?_
      intro r86 v87 S79 H80 s81 w82 p83 g85 rr88 hm84
      cases run_of_pure hm84
      exact fin _ ⟨S79, w82.g, p83, rr88⟩
end
abbrev t__law_strong : Stmt := top 47
theorem sc__law_strong : FnScope ["n", "base", "own", "turn", "d", "s"] ["n", "base"] (defScope t__law_strong) := ⟨rfl, rfl, rfl, by decide +kernel, rfl, by decide +kernel, by decide +kernel⟩
@[irreducible] noncomputable def m__law_strong (p_n : Int) (p_base : Int) : Option Bool :=
bnd (p_n - (1 : Int)) fun d1 =>
bnd (0 : Int) fun s11 =>
(whS many (fun (st21 : Int × Int) k => Mir.lft (grd (0 < (2 : Int))) >>= fun _ => k (decide ((st21.1 % (2 : Int)) = (0 : Int)))) (fun (st21 : Int × Int) =>
Mir.lft (grd (Dv (2 : Int))) >>= fun _ => bnd (st21.1 / (2 : Int)) fun d52 =>
bnd (st21.2 + (1 : Int)) fun s62 =>
pure (d52, s62)) (d1, s11)) >>= fun (st21 : Int × Int) =>
Mir.lft (m__law_rest p_base st21.1 p_n) >>= fun r208 => bnd r208 fun own79 =>
if (decide (own79 = (1 : Int))) = true then
(bnd true fun r103 => pure r103)
else
(Mir.lft (grd (RgB st21.2)) >>= fun _ => (lpC (ρ := Bool) (rng 0 st21.2) (fun (x115 : Int) (st113 : Int) =>
if (decide (st113 = (p_n - (1 : Int)))) = true then
(bnd true fun r168 => pure (Ctl.ret r168))
else
(Mir.lft (grd (Sm st113 ∧ Sm st113)) >>= fun _ => Mir.lft (grd (0 < p_n)) >>= fun _ => bnd ((st113 * st113) % p_n) fun own178 =>
pure (Ctl.go own178))) own79) >>= fun o => aft o (fun (st113 : Int) =>
bnd false fun r203 => pure r203) (fun r206 => pure r206))
noncomputable abbrev fm__law_strong : (Int × Int) → Option Bool := fun (a0, a1) => m__law_strong a0 a1
abbrev sp__law_strong (K : PySem.W.Frag) : Sp := spV F0 fm__law_strong (fun _ => (aCons rI (aOne rI))) rB
section
variable {P : Program} {w : World} {K : PySem.W.Frag} {mg : Str → Option Value} {base : Heap}
theorem g__law_strong (T : Tx mg base) (D0 : Dk P w K mg base "_law_rest" "_law_rest" t__law_rest 1 ["number", "e", "n"] (sp__law_rest K)) {f : Addr} {fd : FuncData} (F : Fun K "_law_strong" "_law_strong" t__law_strong f fd) : FnG P w K mg base CX0 2 f fd ["n", "base"] (sp__law_strong K) := by
  obtain ⟨f0, fd0, F0, m0, G0, b0⟩ := D0
  refine okG0 F sc__law_strong (fun vs H Q E h => ?_) (fun cdv A outer s0_ H0 vs Q E hr gd h => ?_)
  · obtain ⟨_, _, _, _, _, _, _, _, ⟨_, _, rfl, _, ⟨_, rfl, _⟩⟩, _⟩ := h
    rfl
  · obtain ⟨_, a, S0, s0, r, s', e0, p0, ⟨_, _, rfl, rfl, ⟨_, rfl, rfl⟩⟩, hm0, fin0⟩ := h
    obtain ⟨p_n, p_base⟩ := a
    have fin : ∀ v {H' : Hp}, (∃ S', Gm (pt0).M S0 H0 S' H' ∧ PotAt pt0 s' S' H' ∧ rB r v S') → Q v H' := fun v {H'} ⟨S', h1, h2, h3⟩ => fin0 v S' H' h1 h2 h3
    have w0 : Wd pt0 S0 H0 S0 H0 [] := Wd.start e0
    have hm0 : Mir.run (m__law_strong p_n p_base) s0 = some (r, s') := hm0
    unfold m__law_strong at hm0
    have sc := sc__law_strong
    refine ⟨_, pss_cons (ps_par (i := 4) (j := 5) rfl sc.nd rfl rfl (by decide) rfl rfl (pa_cons (pe_op op_sub (pv 0) (pe_int)) (pa_cons (pe_int) (pa_nil))) (by rfl)) (pss_cons (ps_while PassesOwn.never (pt_cmpR op_eq (pe_op op_mod (pv 4) (pe_int)) (pe_int) (nomark _)) (pss_cons (ps_par (i := 4) (j := 5) rfl sc.nd rfl rfl (by decide) rfl rfl (pa_cons (pe_op op_fdivW (pv 4) (pe_int)) (pa_cons (pe_op op_add (pv 5) (pe_int)) (pa_nil))) (by rfl)) (pss_nil))) (pss_cons (ps_set (i := 2) sc.nd rfl (by first | exact Or.inl rfl | exact Or.inr rfl) (pe_cG G0 (hr.mono (by decide)) gd rfl m0 F0.kp b0 pass0 (pa_cons (pv 1) (pa_cons (pv 4) (pa_cons (pv 0) (pa_nil)))))) (pss_cons (ps_if (pt_cmpR op_eq (pv 2) (pe_int) (nomark _)) (pss_cons (ps_ret (pe_bl)) (pss_nil)) (pss_nil)) (pss_cons (ps_for PassesOwn.never rfl (pi_range1 rfl T.n_range (pa_cons (pv 5) pa_nil)) (pg_name (i := 3) sc.nd rfl (by first | exact Or.inl rfl | exact Or.inr rfl)) (pss_cons (ps_if (pt_cmpR op_eq (pv 2) (pe_op op_sub (pv 0) (pe_int)) (nomark _)) (pss_cons (ps_ret (pe_bl)) (pss_nil)) (pss_nil)) (pss_cons (ps_set (i := 2) sc.nd rfl (by first | exact Or.inl rfl | exact Or.inr rfl) (pe_op op_mod (pe_callTy call_int1 (by rfl) T.n_int (by decide +kernel) (pa_cons (pe_op op_mulX (pv 2) (pv 2)) pa_nil)) (pv 0))) (pss_nil)))) (pss_cons (ps_ret (pe_bl)) (pss_nil)))))), ?_⟩
    refine par_go ?_
    refine x_ev w0 p0 (e_sub (e_var (R := rI) rfl rfl) e_cI) hm0 ?_
    intro d1 vd9 S2 H3 s4 w5 p6 g8 rd10 hm7
    cases (show vd9 = .int d1 from rd10)
    refine x_ev w5 p6 e_cI hm7 ?_
    intro s11 vs19 S12 H13 s14 w15 p16 g18 rs20 hm17
    cases (show vs19 = .int s11 from rs20)
    refine par_end [some (.int p_n), some (.int p_base), none, none, some (.int d1), some (.int s11)] rfl ?_
    refine q_wh (p := pt0) (fun st21 σ S' H' s' => σ = [some (.int p_n), some (.int p_base), none, none, some (.int st21.1), some (.int st21.2)] ∧ Wd pt0 S0 H0 S' H' [] ∧ PotAt pt0 s' S' H' ∧ Ex S12 S') ⟨rfl, w15, p16, Ex.rf⟩ hm17 ?_ ?_ ?_ ?_
    · rintro st21 _ S27 H28 s29 ⟨rfl, w24, p25, eb26⟩
      exact ⟨p25, w24.i, (t_Test (e_eq (e_mod (e_var (R := rI) rfl rfl) e_cI) e_cI))⟩
    · rintro st21 _ S33 H34 s35 S36 H37 s38 ⟨rfl, w30, p31, eb32⟩ g39 p40
      exact ⟨rfl, w30.go g39, p40, eb32.tr g39.s⟩
    · rintro st21 _ S44 H45 s46 st21_ s2_ D_ ⟨rfl, w41, p42, eb43⟩ hm47 nx48
      refine par_go ?_
      refine x_ev w41 p42 (e_fdiv (e_var (R := rI) rfl rfl) e_cI) hm47 ?_
      intro d52 vd60 S53 H54 s55 w56 p57 g59 rd61 hm58
      cases (show vd60 = .int d52 from rd61)
      have eb43 := eb43.tr g59.s
      refine x_ev w56 p57 (e_add (e_var (R := rI) rfl rfl) e_cI) hm58 ?_
      intro s62 vs70 S63 H64 s65 w66 p67 g69 rs71 hm68
      cases (show vs70 = .int s62 from rs71)
      have eb43 := eb43.tr g69.s
      refine par_end [some (.int p_n), some (.int p_base), none, none, some (.int d52), some (.int s62)] rfl ?_
      cases run_of_pure hm68
      exact (nx48 _ _ _ ⟨rfl, w66, p67, eb43⟩).1
    · rintro st21 _ S75 H76 s77 ⟨rfl, w72, p73, eb74⟩ hm78
      refine q_set (fun v => [some (.int p_n), some (.int p_base), some v, none, some (.int st21.1), some (.int st21.2)]) (fun _ => rfl) w72 p73 (Ev.eta (e_call (E := E0) (fm := fm__law_rest) (R := rI) (a_cons (e_var (R := rI) rfl rfl) (a_cons (e_var (R := rI) rfl rfl) (a_one (e_var (R := rI) rfl rfl)))))) hm78 ?_
      intro own79 vown87 S80 H81 s82 w83 p84 g86 rown88 hm85
      cases (show vown87 = .int own79 from rown88)
      refine q_if w83 p84 (t_Test (e_eq (e_var (R := rI) rfl rfl) e_cI)) hm85 ?_ ?_
      · intro S89 H90 s91 w92 p93 g94 hm95
        refine q_ret w92 p93 e_cB hm95 ?_
        intro r103 v104 S96 H97 s98 w99 p100 g102 rr105 hm101
        cases run_of_pure hm101
        exact fin _ ⟨S96, w99.g, p100, rr105⟩
      · intro S106 H107 s108 w109 p110 g111 hm112
        refine nx_done ?_
        refine q_forC (p := pt0) (ρ := Bool) w109 p110 (i_R1 (e_var (R := rI) rfl rfl)) (g_nm (R := rI)) hm112 (fun Sb114 st113 σ S' H' s' => Ex Sb114 S' ∧ (∃ (xturn_ : Option V), σ = [some (.int p_n), some (.int p_base), some (.int st113), xturn_, some (.int st21.1), some (.int st21.2)] ∧ Wd pt0 S0 H0 S' H' [] ∧ PotAt pt0 s' S' H' ∧ Ex S106 S')) (fun r v H' s' => ∃ S', Gm (pt0).M S0 H0 S' H' ∧ PotAt pt0 s' S' H' ∧ rB r v S') ?_ ?_ ?_ ?_ ?_ ?_
        · intro S116 H117 s118 w119 p120 g121
          exact ⟨Ex.rf, ⟨_, rfl, w119, p120, g121.s⟩⟩
        · rintro Sb114 st113 _ S126 H127 s128 ⟨ex129, ⟨xturn122, rfl, w123, p124, eb125⟩⟩
          exact ⟨ex129, w123.i, p124, ownOk0⟩
        · rintro Sb114 st113 _ S134 H135 s136 S137 H138 ⟨ex140, ⟨xturn130, rfl, w131, p132, eb133⟩⟩ g139
          exact ⟨ex140.tr g139.s, _, rfl, w131.go (Gm.up g139), PotAt.go p132 g139, eb133.tr g139.s⟩
        · rintro Sb114 x115 st113 _ σ153 S145 H146 s147 st113_ s2_ D_ ⟨ex152, ⟨xturn141, rfl, w142, p143, eb144⟩⟩ hp hm148 nx149 bk150 rt151
          obtain ⟨_, rfl, rfl⟩ := hp
          refine q_if w142 p143 (t_Test (e_eq (e_var (R := rI) rfl rfl) (e_sub (e_var (R := rI) rfl rfl) e_cI))) hm148 ?_ ?_
          · intro S154 H155 s156 w157 p158 g159 hm160
            have eb144 := eb144.tr g159.s
            have ex152 := ex152.tr g159.s
            refine q_ret w157 p158 e_cB hm160 ?_
            intro r168 v169 S161 H162 s163 w164 p165 g167 rr170 hm166
            cases run_of_pure hm166
            exact rt151 _ _ _ rfl ⟨S161, w164.g, p165, rr170⟩
          · intro S171 H172 s173 w174 p175 g176 hm177
            have eb144 := eb144.tr g176.s
            have ex152 := ex152.tr g176.s
            refine nx_done ?_
            refine q_set (fun v => [some (.int p_n), some (.int p_base), some v, some (.int x115), some (.int st21.1), some (.int st21.2)]) (fun _ => rfl) w174 p175 (e_mod (c_int (e_mul (e_var (R := rI) rfl rfl) (e_var (R := rI) rfl rfl))) (e_var (R := rI) rfl rfl)) hm177 ?_
            intro own178 vown186 S179 H180 s181 w182 p183 g185 rown187 hm184
            cases (show vown186 = .int own178 from rown187)
            have eb144 := eb144.tr g185.s
            have ex152 := ex152.tr g185.s
            cases run_of_pure hm184
            exact (nx149 _ _ _ _ rfl ⟨ex152, ⟨_, rfl, w182, p183, eb144⟩⟩).1
        · rintro Sb114 st113 _ S192 H193 s194 ⟨_, ⟨xturn188, rfl, w189, p190, eb191⟩⟩ hm195
          have hm195 := hm195.elim id id
          refine q_ret w189 p190 e_cB hm195 ?_
          intro r203 v204 S196 H197 s198 w199 p200 g202 rr205 hm201
          cases run_of_pure hm201
          exact fin _ ⟨S196, w199.g, p200, rr205⟩
        · intro r206 v207 H' s' hr1 hm1
          cases run_of_pure hm1
          exact fin _ hr1
end
abbrev t__law_are_known_right : Stmt := top 48
theorem sc__law_are_known_right : FnScope ["pot", "known", "most", "k", "triple", "n", "p"] ["pot", "known"] (defScope t__law_are_known_right) := ⟨rfl, rfl, rfl, by decide +kernel, rfl, by decide +kernel, by decide +kernel⟩
@[irreducible] noncomputable def m__law_are_known_right (p_known : (List Int)) : PM PotT Bool :=
Mir.lft (grd (List.length ([(600 : Int), (3000 : Int)] : List Int) ≤ 16000000)) >>= fun _ => m__law_one ([(600 : Int), (3000 : Int)] : List Int) >>= fun r135 => m__law_of r135 >>= fun r134 => bnd ((1 : Int) + r134) fun most1 =>
Mir.lft (m_as_primes_to most1) >>= fun r133 => Mir.lft (grd (List.length p_known ≤ 16000000)) >>= fun _ => if (!decide (r133 = (List.map (fun x11 => x11) (List.filter (fun x11 => (decide (x11 ≤ most1))) p_known)))) = true then
(bnd false fun r28 => pure r28)
else
(Mir.lft (grd (Pw (10 : Int) (9 : Int))) >>= fun _ => Mir.lft (grd (List.length ([(10 : Int), ((10 : Int) ^ Int.toNat (9 : Int))] : List Int) ≤ 16000000)) >>= fun _ => m__law_one ([(10 : Int), ((10 : Int) ^ Int.toNat (9 : Int))] : List Int) >>= fun r132 => m__law_of r132 >>= fun r131 => bnd ((1 : Int) + r131) fun k38 =>
Mir.lft (grd (Sm (6 : Int) ∧ Sm k38)) >>= fun _ => Mir.lft (grd (Sm (12 : Int) ∧ Sm k38)) >>= fun _ => Mir.lft (grd (Sm (18 : Int) ∧ Sm k38)) >>= fun _ => Mir.lft (grd (List.length ([(((6 : Int) * k38) + (1 : Int)), (((12 : Int) * k38) + (1 : Int)), (((18 : Int) * k38) + (1 : Int))] : List Int) ≤ 16000000)) >>= fun _ => bnd ([(((6 : Int) * k38) + (1 : Int)), (((12 : Int) * k38) + (1 : Int)), (((18 : Int) * k38) + (1 : Int))] : List Int) fun triple48 =>
Mir.lft (m_three_factors k38) >>= fun r128 => Mir.lft (m_three_factors k38) >>= fun r129 => Mir.lft (grd (List.length ([r128, r129] : List (Int × Int × Int)) ≤ 16000000)) >>= fun _ => bnd (PyData.list (List.map (fun a => (PyData.tuple [(PyData.int a.1), (PyData.int a.2.1), (PyData.int a.2.2)])) ([r128, r129] : List (Int × Int × Int)))) fun d127 => Mir.lft (grd (OkD d127)) >>= fun _ => Mir.lft (grd (List.length ([triple48, triple48] : List (List Int)) ≤ 16000000)) >>= fun _ => bnd (PyData.list (List.map (fun a => (PyData.tuple (List.map PyData.int a))) ([triple48, triple48] : List (List Int)))) fun d130 => Mir.lft (grd (OkD d130)) >>= fun _ => Mir.lft (grP (d127 = d130)) >>= fun _ => if false = true then
(bnd false fun r72 => pure r72)
else
((if (decide (k38 < (11 : Int))) = true then Mir.lft (grd (List.length triple48 ≤ 16000000)) >>= fun _ => cmp triple48 (fun x82 => Mir.lft (m__law_primes x82) >>= fun r85 => Mir.lft (grd (List.length ([(x82, (1 : Int))] : List (Int × Int)) ≤ 16000000)) >>= fun _ => if (!decide (r85 = ([(x82, (1 : Int))] : List (Int × Int)))) = true then pure (some x82) else pure none) >>= fun l126 => Mir.lft (grd (List.length ([] : List Int) ≤ 16000000)) >>= fun _ => pure (decide (l126 = ([] : List Int))) else pure false) >>= fun b125 => if b125 = true then
(Mir.lft (L2.atI triple48 (0 : Int)) >>= fun y105 => Mir.lft (L2.atI triple48 (1 : Int)) >>= fun y106 => Mir.lft (grd (Sm y105 ∧ Sm y106)) >>= fun _ => Mir.lft (L2.atI triple48 (2 : Int)) >>= fun y107 => Mir.lft (grd (Sm (y105 * y106) ∧ Sm y107)) >>= fun _ => Mir.lft (m_is_as_prime ((y105 * y106) * y107)) >>= fun r104 => bnd (decide (r104 = true)) fun r101 => pure r101)
else
(bnd true fun r122 => pure r122)))
noncomputable abbrev fm__law_are_known_right : (Unit × (List Int)) → PM PotT Bool := fun (_, a1) => m__law_are_known_right a1
abbrev sp__law_are_known_right (K : PySem.W.Frag) : Sp := spV (fun i => potPt i) fm__law_are_known_right (fun i => (aCons (rP i) (aOne (rL (aAll rI))))) rB
section
variable {P : Program} {w : World} {K : PySem.W.Frag} {mg : Str → Option Value} {base : Heap}
theorem g__law_are_known_right (T : Tx mg base) (D0 : Dk P w K mg base "_law_of" "_law_of" t__law_of 1 ["pot", "many"] (sp__law_of K)) (D1 : Dk P w K mg base "_law_one" "_law_one" t__law_one 2 ["pot", "items"] (sp__law_one K)) (D2 : Dk P w K mg base "as_primes_to" "as_primes_to" t_as_primes_to 6 ["most"] (sp_as_primes_to K)) (D3 : Dk P w K mg base "three_factors" "three_factors" t_three_factors 1 ["k"] (sp_three_factors K)) (D4 : Dk P w K mg base "_law_primes" "_law_primes" t__law_primes 1 ["number"] (sp__law_primes K)) (D5 : Dk P w K mg base "is_as_prime" "is_as_prime" t_is_as_prime 5 ["n"] (sp_is_as_prime K)) {f : Addr} {fd : FuncData} (F : Fun K "_law_are_known_right" "_law_are_known_right" t__law_are_known_right f fd) : FnG P w K mg base CX0 7 f fd ["pot", "known"] (sp__law_are_known_right K) := by
  obtain ⟨f0, fd0, F0, m0, G0, b0⟩ := D0
  obtain ⟨f1, fd1, F1, m1, G1, b1⟩ := D1
  obtain ⟨f2, fd2, F2, m2, G2, b2⟩ := D2
  obtain ⟨f3, fd3, F3, m3, G3, b3⟩ := D3
  obtain ⟨f4, fd4, F4, m4, G4, b4⟩ := D4
  obtain ⟨f5, fd5, F5, m5, G5, b5⟩ := D5
  refine okG0 F sc__law_are_known_right (fun vs H Q E h => ?_) (fun cdv A outer s0_ H0 vs Q E hr gd h => ?_)
  · obtain ⟨_, _, _, _, _, _, _, _, ⟨_, _, rfl, _, ⟨_, rfl, _⟩⟩, _⟩ := h
    rfl
  · obtain ⟨i, a, S0, s0, r, s', e0, p0, ⟨_, _, rfl, rfl, ⟨v_known, rfl, r_known⟩⟩, hm0, fin0⟩ := h
    obtain ⟨_, p_known⟩ := a
    have fin : ∀ v {H' : Hp}, (∃ S', Gm ((potPt i)).M S0 H0 S' H' ∧ PotAt (potPt i) s' S' H' ∧ rB r v S') → Q v H' := fun v {H'} ⟨S', h1, h2, h3⟩ => fin0 v S' H' h1 h2 h3
    have w0 : Wd (potPt i) S0 H0 S0 H0 [] := Wd.start e0
    have hm0 : Mir.run (m__law_are_known_right p_known) s0 = some (r, s') := hm0
    unfold m__law_are_known_right at hm0
    have sc := sc__law_are_known_right
    refine ⟨_, pss_cons (ps_set (i := 2) sc.nd rfl (by first | exact Or.inl rfl | exact Or.inr rfl) (pe_op op_add (pe_int) (pe_cG G0 (hr.mono (by decide)) gd rfl m0 F0.kp b0 pass0 (pa_cons (pv 0) (pa_cons (pe_cG G1 (hr.mono (by decide)) gd rfl m1 F1.kp b1 pass0 (pa_cons (pv 0) (pa_cons (pe_lst (pa_cons (pe_int) (pa_cons (pe_int) (pa_nil)))) (pa_nil)))) (pa_nil)))))) (pss_cons (ps_if (pt_cmpR (k_neD K hr) (pe_cG G2 (hr.mono (by decide)) gd rfl m2 F2.kp b2 pass0 (pa_cons (pv 2) (pa_nil))) (pe_callTy (k_tupOf K) (by rfl) T.n_tuple (by decide +kernel) (pa_cons (pe_lc (own := [("n", 5)]) (g := (gName 5)) rfl sc.nd (k_pil K (pv 1)) (blkOk_by (N := ["pot", "known", "most", "k", "triple", "n", "p"]) (sc := defScope t__law_are_known_right) (by decide +kernel)) (fun _ _ _ _ _ => pg_name (i := 5) sc.nd rfl (by first | exact Or.inl rfl | exact Or.inr rfl)) (fun _ _ _ _ _ => pts_one (pt_cmpR op_le (pv 5) (pv 2) (nomark _))) (fun _ _ _ _ _ => pv 5)) pa_nil)) (nomark _)) (pss_cons (ps_ret (pe_bl)) (pss_nil)) (pss_nil)) (pss_cons (ps_set (i := 3) sc.nd rfl (by first | exact Or.inl rfl | exact Or.inr rfl) (pe_op op_add (pe_int) (pe_cG G0 (hr.mono (by decide)) gd rfl m0 F0.kp b0 pass0 (pa_cons (pv 0) (pa_cons (pe_cG G1 (hr.mono (by decide)) gd rfl m1 F1.kp b1 pass0 (pa_cons (pv 0) (pa_cons (pe_lst (pa_cons (pe_int) (pa_cons (pe_op op_pow (pe_int) (pe_int)) (pa_nil)))) (pa_nil)))) (pa_nil)))))) (pss_cons (ps_set (i := 4) sc.nd rfl (by first | exact Or.inl rfl | exact Or.inr rfl) (pe_tup (pa_cons (pe_op op_add (pe_op op_mulX (pe_int) (pv 3)) (pe_int)) (pa_cons (pe_op op_add (pe_op op_mulX (pe_int) (pv 3)) (pe_int)) (pa_cons (pe_op op_add (pe_op op_mulX (pe_int) (pv 3)) (pe_int)) (pa_nil)))))) (pss_cons (ps_if (pt_cmpR op_ne (pe_callB (k_repr K hr gd T.nd) (by rfl) T.n_repr (by decide +kernel) (pa_cons (pe_lst (pa_cons (pe_cG G3 (hr.mono (by decide)) gd rfl m3 F3.kp b3 pass0 (pa_cons (pv 3) (pa_nil))) (pa_cons (pe_cGK0 (ks := ["k"]) (ix := [0]) G3 (hr.mono (by decide)) gd rfl m3 F3.kp (Fun.kb F3 (ps := ["k"]) (ks := ["k"]) (n := 0) (ix := [0]) fun _ _ _ _ _ _ us ws h1 h2 => match us, ws, h1, h2 with | [], [_], _, _ => rfl) pass0 (pk_cons (pv 3) (pk_nil))) (pa_nil)))) pa_nil)) (pe_callB (k_repr K hr gd T.nd) (by rfl) T.n_repr (by decide +kernel) (pa_cons (pe_lst (pa_cons (pv 4) (pa_cons (pv 4) (pa_nil)))) pa_nil)) (nomark _)) (pss_cons (ps_ret (pe_bl)) (pss_nil)) (pss_nil)) (pss_cons (ps_if (PW.pt (pw_and (pt_cmpR op_lt (pv 3) (pe_int) (nomark _)) (pw_and1 (pt_cmpR (k_eqD K hr) (pe_lc (own := [("p", 6)]) (g := (gName 6)) rfl sc.nd (k_pit K (pv 4)) (blkOk_by (N := ["pot", "known", "most", "k", "triple", "n", "p"]) (sc := defScope t__law_are_known_right) (by decide +kernel)) (fun _ _ _ _ _ => pg_name (i := 6) sc.nd rfl (by first | exact Or.inl rfl | exact Or.inr rfl)) (fun _ _ _ _ _ => pts_one (pt_cmpR (k_neD K hr) (pe_cG G4 (hr.mono (by decide)) gd rfl m4 F4.kp b4 pass0 (pa_cons (pv 6) (pa_nil))) (pe_tup (pa_cons (pe_tup (pa_cons (pv 6) (pa_cons (pe_int) (pa_nil)))) (pa_nil))) (nomark _))) (fun _ _ _ _ _ => pv 6)) (pe_lst (pa_nil)) (nomark _))))) (pss_cons (ps_ret (pe_cmpR op_isBl (pe_cG G5 (hr.mono (by decide)) gd rfl m5 F5.kp b5 pass0 (pa_cons (pe_op op_mulX (pe_op op_mulX (pe_ix (k_ixT K) (pv 4) (pe_int) (fun _ _ => rfl)) (pe_ix (k_ixT K) (pv 4) (pe_int) (fun _ _ => rfl))) (pe_ix (k_ixT K) (pv 4) (pe_int) (fun _ _ => rfl))) (pa_nil))) (pe_bl) (nomark _))) (pss_nil)) (pss_nil)) (pss_cons (ps_ret (pe_bl)) (pss_nil))))))), ?_⟩
    refine q_set (fun v => [some (.ref i.a), some v_known, some v, none, none, none, none]) (fun _ => rfl) w0 p0 (e_add e_cI (Ev.eta (e_callP (F := fun i => potPt i) (i := i) (A := fun i => (aCons (rP i) (aOne rI))) (E := E0) (fm := fm__law_of) (R := rI) (a_cons (e_var (R := rP i) (a := ()) rfl rfl) (a_one (Ev.eta (e_callP (F := fun i => potPt i) (i := i) (A := fun i => (aCons (rP i) (aOne (rL (aAll rI))))) (E := E0) (fm := fm__law_one) (R := rI) (a_cons (e_var (R := rP i) (a := ()) rfl rfl) (a_one (EvL.frz (l_lstL (a_consL e_cI (a_consL e_cI (a_nilL (R := rI))))))))))))))) hm0 ?_
    intro most1 vmost9 S2 H3 s4 w5 p6 g8 rmost10 hm7
    cases (show vmost9 = .int most1 from rmost10)
    have r_known := Mo.mo g8.s r_known
    refine q_if w5 p6 (t_Test (e_neQ (q_T (qs_all q_I)) (by decide) (Ev.Q (Ev.eta (e_call (E := E0) (fm := fm_as_primes_to) (R := (rT K (aAll rI))) (a_one (e_var (R := rI) rfl rfl)))) (d_T (ds_all d_I))) (Ev.Q (c_tup (K := K) (EvL.rd (l_lcT (vs := [5]) (t := (fun x11 => (decide (x11 ≤ most1)))) (f := (fun x11 => x11)) (R' := rI) (i_L (K := K) (e_var rfl r_known)) ownOk0 (g_nm (R := rI)) (fun x σ' S hp => by obtain ⟨_, rfl, _⟩ := hp; rfl) (fun x11 σ' S1 H1 g12 hp => by have w13 := w5.go g12; obtain ⟨_, rfl, rfl⟩ := hp; have r_known := Mo.mo g12.s r_known; exact (t_Test (e_le (e_var (R := rI) rfl rfl) (e_var (R := rI) rfl rfl)))) (fun x11 σ' S1 H1 g12 hp => by have w13 := w5.go g12; obtain ⟨_, rfl, rfl⟩ := hp; have r_known := Mo.mo g12.s r_known; exact (e_var (R := rI) rfl rfl)) pm_nm))) (d_T (ds_all d_I))))) hm7 ?_ ?_
    · intro S14 H15 s16 w17 p18 g19 hm20
      have r_known := Mo.mo g19.s r_known
      refine q_ret w17 p18 e_cB hm20 ?_
      intro r28 v29 S21 H22 s23 w24 p25 g27 rr30 hm26
      cases run_of_pure hm26
      exact fin _ ⟨S21, w24.g, p25, rr30⟩
    · intro S31 H32 s33 w34 p35 g36 hm37
      have r_known := Mo.mo g36.s r_known
      refine nx_done ?_
      refine q_set (fun v => [some (.ref i.a), some v_known, some (.int most1), some v, none, none, none]) (fun _ => rfl) w34 p35 (e_add e_cI (Ev.eta (e_callP (F := fun i => potPt i) (i := i) (A := fun i => (aCons (rP i) (aOne rI))) (E := E0) (fm := fm__law_of) (R := rI) (a_cons (e_var (R := rP i) (a := ()) rfl rfl) (a_one (Ev.eta (e_callP (F := fun i => potPt i) (i := i) (A := fun i => (aCons (rP i) (aOne (rL (aAll rI))))) (E := E0) (fm := fm__law_one) (R := rI) (a_cons (e_var (R := rP i) (a := ()) rfl rfl) (a_one (EvL.frz (l_lstL (a_consL e_cI (a_consL (e_pow e_cI e_cI) (a_nilL (R := rI))))))))))))))) hm37 ?_
      intro k38 vk46 S39 H40 s41 w42 p43 g45 rk47 hm44
      cases (show vk46 = .int k38 from rk47)
      have r_known := Mo.mo g45.s r_known
      refine q_set (fun v => [some (.ref i.a), some v_known, some (.int most1), some (.int k38), some v, none, none]) (fun _ => rfl) w42 p43 (e_tupL (K := K) (a_consL (e_add (e_mul e_cI (e_var (R := rI) rfl rfl)) e_cI) (a_consL (e_add (e_mul e_cI (e_var (R := rI) rfl rfl)) e_cI) (a_consL (e_add (e_mul e_cI (e_var (R := rI) rfl rfl)) e_cI) (a_nilL (R := rI)))))) hm44 ?_
      intro triple48 vtriple56 S49 H50 s51 w52 p53 g55 rtriple57 hm54
      have r_known := Mo.mo g55.s r_known
      refine q_if w52 p53 (t_Test (e_neW (c_repr (EvL.frz (l_lstL (a_consL (Ev.eta (e_call (E := E0) (fm := fm_three_factors) (R := (rT K (aCons rI (aCons rI (aOne rI))))) (a_one (e_var (R := rI) rfl rfl)))) (a_consL (e_callK (E := E0) (n := 0) (m' := 1) (ix := [0]) (fm := fm_three_factors) (A := (aOne rI)) (A1 := aNil) (A2 := (aOne rI)) (R := (rT K (aCons rI (aCons rI (aOne rI))))) (fun a b => b) a_nil (a_one (e_var (R := rI) rfl rfl)) (fun a b vs zs S h1 h2 => by obtain rfl := h1; obtain ⟨_, rfl, y0⟩ := h2; exact ⟨rfl, rfl, ⟨_, rfl, y0⟩⟩)) (a_nilL (R := (rT K (aCons rI (aCons rI (aOne rI)))))))))) (d_L (ds_all (d_T (ds_cons d_I (ds_cons d_I (ds_one d_I))))))) (c_repr (EvL.frz (l_lstL (a_consL (e_var rfl rtriple57) (a_consL (e_var rfl rtriple57) (a_nilL (R := (rT K (aAll rI)))))))) (d_L (ds_all (d_T (ds_all d_I))))))) hm54 ?_ ?_
      · intro S58 H59 s60 w61 p62 g63 hm64
        have r_known := Mo.mo g63.s r_known
        have rtriple57 := Mo.mo g63.s rtriple57
        refine q_ret w61 p62 e_cB hm64 ?_
        intro r72 v73 S65 H66 s67 w68 p69 g71 rr74 hm70
        cases run_of_pure hm70
        exact fin _ ⟨S65, w68.g, p69, rr74⟩
      · intro S75 H76 s77 w78 p79 g80 hm81
        have r_known := Mo.mo g80.s r_known
        have rtriple57 := Mo.mo g80.s rtriple57
        refine nx_done ?_
        refine q_if w78 p79 (t_and (t_Test (e_lt (e_var (R := rI) rfl rfl) e_cI)) (t_Test (e_eqQ (q_L (qs_all q_I)) (by decide) (EvR.Q (EvL.rd (l_lc (γ := Int) (vs := [6]) (mt := fun x82 k => Mir.lft (m__law_primes x82) >>= fun r86 => Mir.lft (grd (List.length ([(x82, (1 : Int))] : List (Int × Int)) ≤ 16000000)) >>= fun _ => k (!decide (r86 = ([(x82, (1 : Int))] : List (Int × Int))))) (me := fun x82 k => k x82) (R' := rI) (i_T (e_var rfl rtriple57)) ownOk0 (g_nm (R := rI)) (fun x σ' S hp => by obtain ⟨_, rfl, _⟩ := hp; rfl) (fun x82 σ' S1 H1 g83 hp => by have w84 := w78.go g83; obtain ⟨_, rfl, rfl⟩ := hp; have r_known := Mo.mo g83.s r_known; have rtriple57 := Mo.mo g83.s rtriple57; exact (t_Test (e_neQ (q_T (qs_all (q_T (qs_cons q_I (qs_one q_I))))) (by decide) (Ev.Q (Ev.eta (e_call (E := E0) (fm := fm__law_primes) (R := (rT K (aAll (rT K (aCons rI (aOne rI)))))) (a_one (e_var (R := rI) rfl rfl)))) (d_T (ds_all (d_T (ds_cons d_I (ds_one d_I)))))) (Ev.Q (e_tupL (K := K) (a_consL (e_tup (K := K) (a_cons (e_var (R := rI) rfl rfl) (a_one e_cI)) (arN_cons arN_one) (by decide)) (a_nilL (R := (rT K (aCons rI (aOne rI))))))) (d_T (ds_all (d_T (ds_cons d_I (ds_one d_I))))))))) (fun x82 σ' S1 H1 g83 hp => by have w84 := w78.go g83; obtain ⟨_, rfl, rfl⟩ := hp; have r_known := Mo.mo g83.s r_known; have rtriple57 := Mo.mo g83.s rtriple57; exact (e_var (R := rI) rfl rfl)) pm_nm)) (ds_all d_I)) (EvR.Q (EvL.rd (l_lstL (a_nilL (R := rI)))) (ds_all d_I))))) hm81 ?_ ?_
        · intro S87 H88 s89 w90 p91 g92 hm93
          have r_known := Mo.mo g92.s r_known
          have rtriple57 := Mo.mo g92.s rtriple57
          refine q_ret w90 p91 (e_isB (Ev.eta (e_call (E := E0) (fm := fm_is_as_prime) (R := rB) (a_one (e_mul (e_mul (e_ixT (e_var rfl rtriple57) e_cI) (e_ixT (e_var rfl rtriple57) e_cI)) (e_ixT (e_var rfl rtriple57) e_cI))))) e_cB) hm93 ?_
          intro r101 v102 S94 H95 s96 w97 p98 g100 rr103 hm99
          cases run_of_pure hm99
          exact fin _ ⟨S94, w97.g, p98, rr103⟩
        · intro S108 H109 s110 w111 p112 g113 hm114
          have r_known := Mo.mo g113.s r_known
          have rtriple57 := Mo.mo g113.s rtriple57
          refine nx_done ?_
          refine q_ret w111 p112 e_cB hm114 ?_
          intro r122 v123 S115 H116 s117 w118 p119 g121 rr124 hm120
          cases run_of_pure hm120
          exact fin _ ⟨S115, w118.g, p119, rr124⟩
end
abbrev t__law_pot : Stmt := top 40
theorem sc__law_pot : FnScope ["script", "cell", "cells", "mixed"] ["script"] (defScope t__law_pot) := ⟨rfl, rfl, rfl, by decide +kernel, rfl, by decide +kernel, by decide +kernel⟩
@[irreducible] noncomputable def m__law_pot (p_script : List Int) : Option PotT :=
Mir.lft (grd (List.length (cut p_script none (some (63 : Int))) ≤ 16000000)) >>= fun _ => cmp (cut p_script none (some (63 : Int))) (fun x1 => Mir.lft (grd (Sm (2 : Int) ∧ Sm (if x1 < 0 then -x1 else x1))) >>= fun _ => pure (some (((2 : Int) * (if x1 < 0 then -x1 else x1)) + (if (decide (x1 < (0 : Int))) = true then (1 : Int) else 0)))) >>= fun l96 => bnd l96 fun cells4 =>
Mir.lft (grd (Sm (73 : Int) ∧ Sm (List.length p_script : Int))) >>= fun _ => bnd ((19592 : Int) + ((73 : Int) * (List.length p_script : Int))) fun mixed14 =>
(lpS cells4 (fun (x26 : Int) (st24 : Int) =>
Mir.lft (grd (Sm st24 ∧ Sm (69069 : Int))) >>= fun _ => Mir.lft (grd (0 < (4294967291 : Int))) >>= fun _ => bnd ((((st24 * (69069 : Int)) + x26) + (11 : Int)) % (4294967291 : Int)) fun mixed65 =>
pure mixed65) mixed14) >>= fun (st24 : Int) =>
Mir.lft (grd (List.length cells4 ≤ 16000000)) >>= fun _ => cmp cells4 (fun x83 => Mir.lft (grd (Pw (10 : Int) (12 : Int))) >>= fun _ => if (decide (((10 : Int) ^ Int.toNat (12 : Int)) < x83)) = true then pure (some x83) else pure none) >>= fun l95 => bnd (PotT.mk l95 st24 0) fun r93 => pure r93
abbrev sp__law_pot (K : PySem.W.Frag) : Sp := spP potHd m__law_pot K
section
variable {P : Program} {w : World} {K : PySem.W.Frag} {mg : Str → Option Value} {base : Heap}
theorem g__law_pot (T : Tx mg base)  {f : Addr} {fd : FuncData} (F : Fun K "_law_pot" "_law_pot" t__law_pot f fd) : FnG P w K mg base CX0 1 f fd ["script"] (sp__law_pot K) := by
  refine okG0 F sc__law_pot (fun vs H Q E h => ?_) (fun cdv A outer s0_ H0 vs Q E hr gd h => ?_)
  · obtain ⟨_, _, _, _, ⟨_, rfl, _⟩, _⟩ := h
    rfl
  · obtain ⟨p_script, S0, sP, e0, ⟨v_script, rfl, r_script⟩, hf, fin0⟩ := h
    have p0 : PotAt pt0 () S0 H0 := pot0
    have hm0 : Mir.run (m__law_pot p_script) () = some (sP, ()) := by show (m__law_pot p_script).map _ = _; rw [hf]; rfl
    have w0 : Wd pt0 S0 H0 S0 H0 [] := Wd.start e0
    unfold m__law_pot at hm0
    have sc := sc__law_pot
    refine ⟨_, pss_cons (ps_par (i := 2) (j := 3) rfl sc.nd rfl rfl (by decide) rfl rfl (pa_cons (pe_lc (own := [("cell", 1)]) (g := (gName 1)) (tt := tYes) rfl sc.nd (k_pil K (pe_slice (k_sll K) (pv 0) (po_none) (po_some (pe_int)))) (blkOk_by (N := ["script", "cell", "cells", "mixed"]) (sc := defScope t__law_pot) (by decide +kernel)) (fun _ _ _ _ _ => pg_name (i := 1) sc.nd rfl (by first | exact Or.inl rfl | exact Or.inr rfl)) (fun _ _ _ _ _ => pts_nil) (fun _ _ _ _ _ => pe_op op_add (pe_op op_mulX (pe_int) (pe_callB call_abs (by rfl) T.n_abs (by decide +kernel) (pa_cons (pv 1) pa_nil))) (pe_callTy call_int1 (by rfl) T.n_int (by decide +kernel) (pa_cons (pe_cmpR op_lt (pv 1) (pe_int) (nomark _)) pa_nil)))) (pa_cons (pe_op op_add (pe_int) (pe_op op_mulX (pe_int) (pe_callB (k_len K) (by rfl) T.n_len (by decide +kernel) (pa_cons (pv 0) pa_nil)))) (pa_nil))) (by rfl)) (pss_cons (ps_for PassesOwn.never rfl (k_pil K (pv 2)) (pg_name (i := 1) sc.nd rfl (by first | exact Or.inl rfl | exact Or.inr rfl)) (pss_cons (ps_set (i := 3) sc.nd rfl (by first | exact Or.inl rfl | exact Or.inr rfl) (pe_op op_mod (pe_op op_add (pe_op op_add (pe_op op_mulX (pv 3) (pe_int)) (pv 1)) (pe_int)) (pe_int))) (pss_nil))) (pss_cons (ps_ret (pe_lst (pa_cons (pe_lc (own := [("cell", 1)]) (g := (gName 1)) rfl sc.nd (k_pil K (pv 2)) (blkOk_by (N := ["script", "cell", "cells", "mixed"]) (sc := defScope t__law_pot) (by decide +kernel)) (fun _ _ _ _ _ => pg_name (i := 1) sc.nd rfl (by first | exact Or.inl rfl | exact Or.inr rfl)) (fun _ _ _ _ _ => pts_one (pt_cmpR op_gt (pv 1) (pe_op op_pow (pe_int) (pe_int)) (nomark _))) (fun _ _ _ _ _ => pv 1)) (pa_cons (pv 3) (pa_cons pe_int pa_nil))))) (pss_nil))), ?_⟩
    refine par_go ?_
    refine x_ev w0 p0 (EvL.frz (l_lc1 (γ := Int) (vs := [1]) (me := fun x1 k => Mir.lft (grd (Sm (2 : Int) ∧ Sm (if x1 < 0 then -x1 else x1))) >>= fun _ => k (((2 : Int) * (if x1 < 0 then -x1 else x1)) + (if (decide (x1 < (0 : Int))) = true then (1 : Int) else 0))) (R' := rI) (i_L (K := K) (EvL.frz (l_cutX (e_var rfl r_script) o_no (o_some e_cI)))) ownOk0 (g_nm (R := rI)) (fun x σ' S hp => by obtain ⟨_, rfl, _⟩ := hp; rfl) (fun x1 σ' S1 H1 g2 hp => by have w3 := w0.go g2; obtain ⟨_, rfl, rfl⟩ := hp; have r_script := Mo.mo g2.s r_script; exact (e_add (e_mul e_cI (c_abs (e_var (R := rI) rfl rfl))) (c_intB (e_lt (e_var (R := rI) rfl rfl) e_cI)))) pm_nm)) hm0 ?_
    intro cells4 vcells12 S5 H6 s7 w8 p9 g11 rcells13 hm10
    have r_script := Mo.mo g11.s r_script
    refine x_ev w8 p9 (e_add e_cI (e_mul e_cI (c_lenX (e_var rfl r_script)))) hm10 ?_
    intro mixed14 vmixed22 S15 H16 s17 w18 p19 g21 rmixed23 hm20
    cases (show vmixed22 = .int mixed14 from rmixed23)
    have r_script := Mo.mo g21.s r_script
    have rcells13 := Mo.mo g21.s rcells13
    refine par_end [some v_script, none, some vcells12, some (.int mixed14)] rfl ?_
    refine q_for (p := pt0) w18 p19 (i_L (K := K) (e_var rfl rcells13)) (g_nm (R := rI)) hm20 (fun Sb25 st24 σ S' H' s' => Ex Sb25 S' ∧ (∃ (xcell_ : Option V), σ = [some v_script, xcell_, some vcells12, some (.int st24)] ∧ Wd pt0 S0 H0 S' H' [] ∧ PotAt pt0 s' S' H' ∧ Ex S15 S')) ?_ ?_ ?_ ?_ ?_
    · intro S27 H28 s29 w30 p31 g32
      have r_script := Mo.mo g32.s r_script
      have rcells13 := Mo.mo g32.s rcells13
      exact ⟨Ex.rf, ⟨_, rfl, w30, p31, g32.s⟩⟩
    · rintro Sb25 st24 _ S37 H38 s39 ⟨ex40, ⟨xcell33, rfl, w34, p35, eb36⟩⟩
      exact ⟨ex40, w34.i, p35, ownOk0⟩
    · rintro Sb25 st24 _ S45 H46 s47 S48 H49 ⟨ex51, ⟨xcell41, rfl, w42, p43, eb44⟩⟩ g50
      exact ⟨ex51.tr g50.s, _, rfl, w42.go (Gm.up g50), PotAt.go p43 g50, eb44.tr g50.s⟩
    · rintro Sb25 x26 st24 _ σ64 S56 H57 s58 st24_ s2_ D_ ⟨ex63, ⟨xcell52, rfl, w53, p54, eb55⟩⟩ hp hm59 nx60
      obtain ⟨_, rfl, rfl⟩ := hp
      have r_script := Mo.mo eb55 r_script
      have rcells13 := Mo.mo eb55 rcells13
      refine q_set (fun v => [some v_script, some (.int x26), some vcells12, some v]) (fun _ => rfl) w53 p54 (e_mod (e_add (e_add (e_mul (e_var (R := rI) rfl rfl) e_cI) (e_var (R := rI) rfl rfl)) e_cI) e_cI) hm59 ?_
      intro mixed65 vmixed73 S66 H67 s68 w69 p70 g72 rmixed74 hm71
      cases (show vmixed73 = .int mixed65 from rmixed74)
      have r_script := Mo.mo g72.s r_script
      have rcells13 := Mo.mo g72.s rcells13
      have eb55 := eb55.tr g72.s
      have ex63 := ex63.tr g72.s
      cases run_of_pure hm71
      exact (nx60 _ _ _ ⟨ex63, ⟨_, rfl, w69, p70, eb55⟩⟩).1
    · rintro Sb25 st24 _ S79 H80 s81 ⟨_, ⟨xcell75, rfl, w76, p77, eb78⟩⟩ hm82
      have r_script := Mo.mo eb78 r_script
      have rcells13 := Mo.mo eb78 rcells13
      refine q_retP w76 (pot_lst (l_lc (γ := Int) (vs := [1]) (mt := fun x83 k => Mir.lft (grd (Pw (10 : Int) (12 : Int))) >>= fun _ => k (decide (((10 : Int) ^ Int.toNat (12 : Int)) < x83))) (me := fun x83 k => k x83) (R' := rI) (i_L (K := K) (e_var rfl rcells13)) ownOk0 (g_nm (R := rI)) (fun x σ' S hp => by obtain ⟨_, rfl, _⟩ := hp; rfl) (fun x83 σ' S1 H1 g84 hp => by have w85 := w76.go g84; obtain ⟨_, rfl, rfl⟩ := hp; have r_script := Mo.mo g84.s r_script; have rcells13 := Mo.mo g84.s rcells13; exact (t_Test (e_gt (e_var (R := rI) rfl rfl) (e_pow e_cI e_cI)))) (fun x83 σ' S1 H1 g84 hp => by have w85 := w76.go g84; obtain ⟨_, rfl, rfl⟩ := hp; have r_script := Mo.mo g84.s r_script; have rcells13 := Mo.mo g84.s rcells13; exact (e_var (R := rI) rfl rfl)) pm_nm) (e_var (R := rI) rfl rfl)) hm82 ?_
      intro r93 i94 S86 H87 g88 p89 n90 n91 hm92
      cases run_of_pure hm92
      exact fin0 i94 S86 H87 g88 p89 n90 n91
end
abbrev t_law : Stmt := top 49
theorem sc_law : FnScope ["script", "pot", "known", "turn", "n", "base", "parting", "rest", "told", "named", "counts", "passes", "prime", "due", "order", "strong", "least", "one", "other", "many", "p", "k", "b"] ["script"] (defScope t_law) := ⟨rfl, rfl, rfl, by decide +kernel, rfl, by decide +kernel, by decide +kernel⟩
@[irreducible] noncomputable def m_law : PM PotT Bool :=
Mir.lft (grd (List.length ([(561 : Int), (1105 : Int), (1729 : Int), (2465 : Int), (2821 : Int), (6601 : Int), (8911 : Int), (10585 : Int)] : List Int) ≤ 16000000)) >>= fun _ => bnd ([(561 : Int), (1105 : Int), (1729 : Int), (2465 : Int), (2821 : Int), (6601 : Int), (8911 : Int), (10585 : Int)] : List Int) fun known1 =>
Mir.lft (grd (RgB (2 : Int))) >>= fun _ => (lpC (ρ := Bool) (rng 0 (2 : Int)) (fun (x13 : Int) (st11 : Unit) =>
Mir.lft (grd (List.length ([(30 : Int), (300 : Int), (1500 : Int)] : List Int) ≤ 16000000)) >>= fun _ => m__law_one ([(30 : Int), (300 : Int), (1500 : Int)] : List Int) >>= fun r1214 => m__law_of r1214 >>= fun r1213 => bnd ((2 : Int) + r1213) fun n97 =>
m__law_one known1 >>= fun r1212 => Mir.lft (grd (List.length ([n97, n97, n97, r1212, (341 : Int), (2047 : Int), (9 : Int), (15 : Int)] : List Int) ≤ 16000000)) >>= fun _ => m__law_one ([n97, n97, n97, r1212, (341 : Int), (2047 : Int), (9 : Int), (15 : Int)] : List Int) >>= fun r1211 => bnd r1211 fun n107 =>
m__law_of n107 >>= fun r1210 => bnd r1210 fun base117 =>
Mir.lft (m__law_primes n107) >>= fun r1209 => bnd r1209 fun parting127 =>
Mir.lft (m__law_rest base117 (n107 - (1 : Int)) n107) >>= fun r1208 => bnd r1208 fun rest137 =>
Mir.lft (m_power_rest base117 (n107 - (1 : Int)) n107) >>= fun r1206 => Mir.lft (m_does_pass n107 base117) >>= fun r1207 => bnd (r1206, r1207) fun told147 =>
Mir.lft (m_power_rest base117 (n107 - (1 : Int)) n107) >>= fun r1204 => Mir.lft (m_does_pass n107 base117) >>= fun r1205 => bnd (r1204, r1205) fun named157 =>
Mir.lft (grd (List.length ([told147, named157] : List (Int × Bool)) ≤ 16000000)) >>= fun _ => bnd (PyData.list (List.map (fun a => (PyData.list [(PyData.int a.1), (PyData.bool a.2)])) ([told147, named157] : List (Int × Bool)))) fun d1202 => Mir.lft (grd (OkD d1202)) >>= fun _ => Mir.lft (grd (List.length ([(rest137, (decide (rest137 = (1 : Int))))] : List (Int × Bool)) ≤ 16000000)) >>= fun _ => Mir.lft (grd (RpB (List.length ([(rest137, (decide (rest137 = (1 : Int))))] : List (Int × Bool))) (2 : Int))) >>= fun _ => bnd (PyData.list (List.map (fun a => (PyData.list [(PyData.int a.1), (PyData.bool a.2)])) (List.replicate (Int.toNat (2 : Int)) ([(rest137, (decide (rest137 = (1 : Int))))] : List (Int × Bool))).flatten)) fun d1203 => Mir.lft (grd (OkD d1203)) >>= fun _ => Mir.lft (grP (d1202 = d1203)) >>= fun _ => if false = true then
(bnd false fun r181 => pure (Ctl.ret r181))
else
((if (decide ((0 : Int) < base117)) = true then Mir.lft (m__law_common base117 n107) >>= fun r1201 => pure (decide (r1201 = (1 : Int))) else pure false) >>= fun b1200 => if b1200 = true then
(Mir.lft (m__law_order base117 n107) >>= fun r701 => bnd r701 fun order198 =>
Mir.lft (m_power_order base117 n107) >>= fun r700 => (if (!decide (r700 = order198)) = true then pure true else Mir.lft (grd (0 < order198)) >>= fun _ => pure (!decide ((decide (rest137 = (1 : Int))) = (decide (((n107 - (1 : Int)) % order198) = (0 : Int)))))) >>= fun b699 => if b699 = true then
(bnd false fun r222 => pure (Ctl.ret r222))
else
(Mir.lft (m_order_counts n107) >>= fun r698 => bnd r698 fun counts232 =>
Mir.lft (grd (List.length counts232 ≤ 16000000)) >>= fun _ => cmp counts232 (fun x242 => Mir.lft (grd (0 < x242.1)) >>= fun _ => if (decide (((n107 - (1 : Int)) % x242.1) = (0 : Int))) = true then pure (some x242.2) else pure none) >>= fun l697 => bnd (List.sum l697) fun passes245 =>
Mir.lft (m_passes_number n107) >>= fun r694 => Mir.lft (m_passes_number n107) >>= fun r695 => Mir.lft (grd (List.length ([r694, r695] : List Int) ≤ 16000000)) >>= fun _ => bnd (PyData.list (List.map PyData.int ([r694, r695] : List Int))) fun d693 => Mir.lft (grd (OkD d693)) >>= fun _ => Mir.lft (grd (List.length ([passes245] : List Int) ≤ 16000000)) >>= fun _ => Mir.lft (grd (RpB (List.length ([passes245] : List Int)) (2 : Int))) >>= fun _ => bnd (PyData.list (List.map PyData.int (List.replicate (Int.toNat (2 : Int)) ([passes245] : List Int)).flatten)) fun d696 => Mir.lft (grd (OkD d696)) >>= fun _ => Mir.lft (grP (d693 = d696)) >>= fun _ => if false = true then
(bnd false fun r269 => pure (Ctl.ret r269))
else
(Mir.lft (grd (List.length counts232 ≤ 16000000)) >>= fun _ => Mir.lft (m_rests_number n107) >>= fun r692 => if (!decide ((List.sum (List.map (fun x279 => x279.2) counts232)) = r692)) = true then
(bnd false fun r296 => pure (Ctl.ret r296))
else
(Mir.lft (grd (List.length counts232 ≤ 16000000)) >>= fun _ => Mir.lft (List.max? (List.map (fun x306 => x306.1) counts232)) >>= fun y690 => Mir.lft (m_greatest_order n107) >>= fun r691 => if (!decide (y690 = r691)) = true then
(bnd false fun r323 => pure (Ctl.ret r323))
else
(Mir.lft (grd (List.length ([(n107, (1 : Int))] : List (Int × Int)) ≤ 16000000)) >>= fun _ => bnd (decide (parting127 = ([(n107, (1 : Int))] : List (Int × Int)))) fun prime333 =>
(if (!prime333) = true then Mir.lft (m_greatest_order n107) >>= fun r689 => Mir.lft (grd (0 < r689)) >>= fun _ => (if (decide (((n107 - (1 : Int)) % r689) = (0 : Int))) = true then Mir.lft (grd (List.length parting127 ≤ 16000000)) >>= fun _ => Mir.lft (grd (List.length ([] : List Int) ≤ 16000000)) >>= fun _ => pure (decide ((List.map (fun x343 => x343.2) (List.filter (fun x343 => (decide ((1 : Int) < x343.2))) parting127)) = ([] : List Int))) else pure false) >>= fun b688 => pure b688 else pure false) >>= fun b687 => bnd b687 fun due346 =>
Mir.lft (m_is_as_prime n107) >>= fun r683 => Mir.lft (m_is_as_prime n107) >>= fun r684 => Mir.lft (m_is_prime_number n107) >>= fun r685 => Mir.lft (grd (List.length ([r683, r684, r685] : List Bool) ≤ 16000000)) >>= fun _ => bnd (PyData.list (List.map PyData.bool ([r683, r684, r685] : List Bool))) fun d682 => Mir.lft (grd (OkD d682)) >>= fun _ => Mir.lft (grd (List.length ([due346, due346, prime333] : List Bool) ≤ 16000000)) >>= fun _ => bnd (PyData.list (List.map PyData.bool ([due346, due346, prime333] : List Bool))) fun d686 => Mir.lft (grd (OkD d686)) >>= fun _ => Mir.lft (grP (d682 = d686)) >>= fun _ => if false = true then
(bnd false fun r370 => pure (Ctl.ret r370))
else
((if (!prime333) = true then Mir.lft (m_rests_number n107) >>= fun r681 => pure (decide (passes245 = r681)) else pure false) >>= fun b680 => if (!decide (due346 = b680)) = true then
(bnd false fun r394 => pure (Ctl.ret r394))
else
(Mir.lft (grd (0 < (2 : Int))) >>= fun _ => if (decide ((n107 % (2 : Int)) = (1 : Int))) = true then
(Mir.lft (m__law_strong n107 base117) >>= fun r672 => bnd r672 fun strong411 =>
Mir.lft (m_does_pass_strongly n107 base117) >>= fun r669 => Mir.lft (m_does_pass_strongly n107 base117) >>= fun r670 => Mir.lft (grd (List.length ([r669, r670] : List Bool) ≤ 16000000)) >>= fun _ => bnd (PyData.list (List.map PyData.bool ([r669, r670] : List Bool))) fun d668 => Mir.lft (grd (OkD d668)) >>= fun _ => Mir.lft (grd (List.length ([strong411, strong411] : List Bool) ≤ 16000000)) >>= fun _ => bnd (PyData.list (List.map PyData.bool ([strong411, strong411] : List Bool))) fun d671 => Mir.lft (grd (OkD d671)) >>= fun _ => Mir.lft (grP (d668 = d671)) >>= fun _ => if false = true then
(bnd false fun r435 => pure (Ctl.ret r435))
else
((if (decide (n107 < (400 : Int))) = true then Mir.lft (m_strong_number n107) >>= fun r666 => Mir.lft (grd (RgB n107)) >>= fun _ => Mir.lft (grd (List.length (rng 0 n107) ≤ 16000000)) >>= fun _ => cmp (rng 0 n107) (fun x445 => Mir.lft (m__law_strong n107 x445) >>= fun r448 => if r448 = true then pure (some x445) else pure none) >>= fun l667 => pure (!decide (r666 = (List.length l667 : Int))) else pure false) >>= fun b665 => if b665 = true then
(bnd false fun r464 => pure (Ctl.ret r464))
else
((if (strong411 && (!decide (rest137 = (1 : Int)))) = true then pure true else Mir.lft (m_is_prime_told n107) >>= fun r663 => bnd (PyData.bool r663) fun d662 => Mir.lft (grd (OkD d662)) >>= fun _ => bnd (PyData.bool prime333) fun d664 => Mir.lft (grd (OkD d664)) >>= fun _ => Mir.lft (grP (d662 = d664)) >>= fun _ => pure false) >>= fun b661 => if b661 = true then
(bnd false fun r488 => pure (Ctl.ret r488))
else
(if ((decide (rest137 = (1 : Int))) && (!strong411)) = true then
(Mir.lft (m_parted_by_base n107 base117) >>= fun r596 => Mir.lft (two? r596) >>= fun y595 => bnd y595 fun t505 =>
Mir.lft (grd (Sm t505.1 ∧ Sm t505.2)) >>= fun _ => if ((!decide ((t505.1 * t505.2) = n107)) || ((decide (t505.1 < (2 : Int))) || (decide (t505.2 < t505.1)))) = true then
(bnd false fun r528 => pure (Ctl.ret r528))
else
(if (!prime333) = true then
(Mir.lft (m_least_showing n107) >>= fun r587 => bnd r587 fun least545 =>
Mir.lft (m__law_strong n107 least545) >>= fun r585 => (if r585 = true then pure true else Mir.lft (grd (RgB (2 : Int) ∧ RgB least545)) >>= fun _ => Mir.lft (grd (List.length (rng (2 : Int) least545) ≤ 16000000)) >>= fun _ => cmp (rng (2 : Int) least545) (fun x555 => Mir.lft (m__law_strong n107 x555) >>= fun r558 => if (!r558) = true then pure (some x555) else pure none) >>= fun l586 => Mir.lft (grd (List.length ([] : List Int) ≤ 16000000)) >>= fun _ => pure (!decide (l586 = ([] : List Int)))) >>= fun b584 => if b584 = true then
(bnd false fun r574 => pure (Ctl.ret r574))
else
(pure (Ctl.go ())))
else
(pure (Ctl.go ()))))
else
(if (!prime333) = true then
(Mir.lft (m_least_showing n107) >>= fun r653 => bnd r653 fun least611 =>
Mir.lft (m__law_strong n107 least611) >>= fun r651 => (if r651 = true then pure true else Mir.lft (grd (RgB (2 : Int) ∧ RgB least611)) >>= fun _ => Mir.lft (grd (List.length (rng (2 : Int) least611) ≤ 16000000)) >>= fun _ => cmp (rng (2 : Int) least611) (fun x621 => Mir.lft (m__law_strong n107 x621) >>= fun r624 => if (!r624) = true then pure (some x621) else pure none) >>= fun l652 => Mir.lft (grd (List.length ([] : List Int) ≤ 16000000)) >>= fun _ => pure (!decide (l652 = ([] : List Int)))) >>= fun b650 => if b650 = true then
(bnd false fun r640 => pure (Ctl.ret r640))
else
(pure (Ctl.go ())))
else
(pure (Ctl.go ())))))))
else
(pure (Ctl.go ())))))))))
else
(if (decide (rest137 = (1 : Int))) = true then
(bnd false fun r723 => pure (Ctl.ret r723))
else
(Mir.lft (m_order_counts n107) >>= fun r1199 => bnd r1199 fun counts733 =>
Mir.lft (grd (List.length counts733 ≤ 16000000)) >>= fun _ => cmp counts733 (fun x743 => Mir.lft (grd (0 < x743.1)) >>= fun _ => if (decide (((n107 - (1 : Int)) % x743.1) = (0 : Int))) = true then pure (some x743.2) else pure none) >>= fun l1198 => bnd (List.sum l1198) fun passes746 =>
Mir.lft (m_passes_number n107) >>= fun r1195 => Mir.lft (m_passes_number n107) >>= fun r1196 => Mir.lft (grd (List.length ([r1195, r1196] : List Int) ≤ 16000000)) >>= fun _ => bnd (PyData.list (List.map PyData.int ([r1195, r1196] : List Int))) fun d1194 => Mir.lft (grd (OkD d1194)) >>= fun _ => Mir.lft (grd (List.length ([passes746] : List Int) ≤ 16000000)) >>= fun _ => Mir.lft (grd (RpB (List.length ([passes746] : List Int)) (2 : Int))) >>= fun _ => bnd (PyData.list (List.map PyData.int (List.replicate (Int.toNat (2 : Int)) ([passes746] : List Int)).flatten)) fun d1197 => Mir.lft (grd (OkD d1197)) >>= fun _ => Mir.lft (grP (d1194 = d1197)) >>= fun _ => if false = true then
(bnd false fun r770 => pure (Ctl.ret r770))
else
(Mir.lft (grd (List.length counts733 ≤ 16000000)) >>= fun _ => Mir.lft (m_rests_number n107) >>= fun r1193 => if (!decide ((List.sum (List.map (fun x780 => x780.2) counts733)) = r1193)) = true then
(bnd false fun r797 => pure (Ctl.ret r797))
else
(Mir.lft (grd (List.length counts733 ≤ 16000000)) >>= fun _ => Mir.lft (List.max? (List.map (fun x807 => x807.1) counts733)) >>= fun y1191 => Mir.lft (m_greatest_order n107) >>= fun r1192 => if (!decide (y1191 = r1192)) = true then
(bnd false fun r824 => pure (Ctl.ret r824))
else
(Mir.lft (grd (List.length ([(n107, (1 : Int))] : List (Int × Int)) ≤ 16000000)) >>= fun _ => bnd (decide (parting127 = ([(n107, (1 : Int))] : List (Int × Int)))) fun prime834 =>
(if (!prime834) = true then Mir.lft (m_greatest_order n107) >>= fun r1190 => Mir.lft (grd (0 < r1190)) >>= fun _ => (if (decide (((n107 - (1 : Int)) % r1190) = (0 : Int))) = true then Mir.lft (grd (List.length parting127 ≤ 16000000)) >>= fun _ => Mir.lft (grd (List.length ([] : List Int) ≤ 16000000)) >>= fun _ => pure (decide ((List.map (fun x844 => x844.2) (List.filter (fun x844 => (decide ((1 : Int) < x844.2))) parting127)) = ([] : List Int))) else pure false) >>= fun b1189 => pure b1189 else pure false) >>= fun b1188 => bnd b1188 fun due847 =>
Mir.lft (m_is_as_prime n107) >>= fun r1184 => Mir.lft (m_is_as_prime n107) >>= fun r1185 => Mir.lft (m_is_prime_number n107) >>= fun r1186 => Mir.lft (grd (List.length ([r1184, r1185, r1186] : List Bool) ≤ 16000000)) >>= fun _ => bnd (PyData.list (List.map PyData.bool ([r1184, r1185, r1186] : List Bool))) fun d1183 => Mir.lft (grd (OkD d1183)) >>= fun _ => Mir.lft (grd (List.length ([due847, due847, prime834] : List Bool) ≤ 16000000)) >>= fun _ => bnd (PyData.list (List.map PyData.bool ([due847, due847, prime834] : List Bool))) fun d1187 => Mir.lft (grd (OkD d1187)) >>= fun _ => Mir.lft (grP (d1183 = d1187)) >>= fun _ => if false = true then
(bnd false fun r871 => pure (Ctl.ret r871))
else
((if (!prime834) = true then Mir.lft (m_rests_number n107) >>= fun r1182 => pure (decide (passes746 = r1182)) else pure false) >>= fun b1181 => if (!decide (due847 = b1181)) = true then
(bnd false fun r895 => pure (Ctl.ret r895))
else
(Mir.lft (grd (0 < (2 : Int))) >>= fun _ => if (decide ((n107 % (2 : Int)) = (1 : Int))) = true then
(Mir.lft (m__law_strong n107 base117) >>= fun r1173 => bnd r1173 fun strong912 =>
Mir.lft (m_does_pass_strongly n107 base117) >>= fun r1170 => Mir.lft (m_does_pass_strongly n107 base117) >>= fun r1171 => Mir.lft (grd (List.length ([r1170, r1171] : List Bool) ≤ 16000000)) >>= fun _ => bnd (PyData.list (List.map PyData.bool ([r1170, r1171] : List Bool))) fun d1169 => Mir.lft (grd (OkD d1169)) >>= fun _ => Mir.lft (grd (List.length ([strong912, strong912] : List Bool) ≤ 16000000)) >>= fun _ => bnd (PyData.list (List.map PyData.bool ([strong912, strong912] : List Bool))) fun d1172 => Mir.lft (grd (OkD d1172)) >>= fun _ => Mir.lft (grP (d1169 = d1172)) >>= fun _ => if false = true then
(bnd false fun r936 => pure (Ctl.ret r936))
else
((if (decide (n107 < (400 : Int))) = true then Mir.lft (m_strong_number n107) >>= fun r1167 => Mir.lft (grd (RgB n107)) >>= fun _ => Mir.lft (grd (List.length (rng 0 n107) ≤ 16000000)) >>= fun _ => cmp (rng 0 n107) (fun x946 => Mir.lft (m__law_strong n107 x946) >>= fun r949 => if r949 = true then pure (some x946) else pure none) >>= fun l1168 => pure (!decide (r1167 = (List.length l1168 : Int))) else pure false) >>= fun b1166 => if b1166 = true then
(bnd false fun r965 => pure (Ctl.ret r965))
else
((if (strong912 && (!decide (rest137 = (1 : Int)))) = true then pure true else Mir.lft (m_is_prime_told n107) >>= fun r1164 => bnd (PyData.bool r1164) fun d1163 => Mir.lft (grd (OkD d1163)) >>= fun _ => bnd (PyData.bool prime834) fun d1165 => Mir.lft (grd (OkD d1165)) >>= fun _ => Mir.lft (grP (d1163 = d1165)) >>= fun _ => pure false) >>= fun b1162 => if b1162 = true then
(bnd false fun r989 => pure (Ctl.ret r989))
else
(if ((decide (rest137 = (1 : Int))) && (!strong912)) = true then
(Mir.lft (m_parted_by_base n107 base117) >>= fun r1097 => Mir.lft (two? r1097) >>= fun y1096 => bnd y1096 fun t1006 =>
Mir.lft (grd (Sm t1006.1 ∧ Sm t1006.2)) >>= fun _ => if ((!decide ((t1006.1 * t1006.2) = n107)) || ((decide (t1006.1 < (2 : Int))) || (decide (t1006.2 < t1006.1)))) = true then
(bnd false fun r1029 => pure (Ctl.ret r1029))
else
(if (!prime834) = true then
(Mir.lft (m_least_showing n107) >>= fun r1088 => bnd r1088 fun least1046 =>
Mir.lft (m__law_strong n107 least1046) >>= fun r1086 => (if r1086 = true then pure true else Mir.lft (grd (RgB (2 : Int) ∧ RgB least1046)) >>= fun _ => Mir.lft (grd (List.length (rng (2 : Int) least1046) ≤ 16000000)) >>= fun _ => cmp (rng (2 : Int) least1046) (fun x1056 => Mir.lft (m__law_strong n107 x1056) >>= fun r1059 => if (!r1059) = true then pure (some x1056) else pure none) >>= fun l1087 => Mir.lft (grd (List.length ([] : List Int) ≤ 16000000)) >>= fun _ => pure (!decide (l1087 = ([] : List Int)))) >>= fun b1085 => if b1085 = true then
(bnd false fun r1075 => pure (Ctl.ret r1075))
else
(pure (Ctl.go ())))
else
(pure (Ctl.go ()))))
else
(if (!prime834) = true then
(Mir.lft (m_least_showing n107) >>= fun r1154 => bnd r1154 fun least1112 =>
Mir.lft (m__law_strong n107 least1112) >>= fun r1152 => (if r1152 = true then pure true else Mir.lft (grd (RgB (2 : Int) ∧ RgB least1112)) >>= fun _ => Mir.lft (grd (List.length (rng (2 : Int) least1112) ≤ 16000000)) >>= fun _ => cmp (rng (2 : Int) least1112) (fun x1122 => Mir.lft (m__law_strong n107 x1122) >>= fun r1125 => if (!r1125) = true then pure (some x1122) else pure none) >>= fun l1153 => Mir.lft (grd (List.length ([] : List Int) ≤ 16000000)) >>= fun _ => pure (!decide (l1153 = ([] : List Int)))) >>= fun b1151 => if b1151 = true then
(bnd false fun r1141 => pure (Ctl.ret r1141))
else
(pure (Ctl.go ())))
else
(pure (Ctl.go ())))))))
else
(pure (Ctl.go ()))))))))))) ()) >>= fun o => aft o (fun (st11 : Unit) =>
m__law_are_known_right known1 >>= fun r1248 => bnd r1248 fun r1245 => pure r1245) (fun r1249 => pure r1249)
def okLaw (a : List Int) : Prop := ∃ s s1, m__law_pot a = some s ∧ Mir.run m_law s = some (true, s1)
section
variable {P : Program} {w : World} {K : PySem.W.Frag} {mg : Str → Option Value} {base : Heap}
theorem g_law (T : Tx mg base) (D0 : Dk P w K mg base "_law_pot" "_law_pot" t__law_pot 1 ["script"] (sp__law_pot K)) (D1 : Dk P w K mg base "_law_of" "_law_of" t__law_of 1 ["pot", "many"] (sp__law_of K)) (D2 : Dk P w K mg base "_law_one" "_law_one" t__law_one 2 ["pot", "items"] (sp__law_one K)) (D3 : Dk P w K mg base "_law_primes" "_law_primes" t__law_primes 1 ["number"] (sp__law_primes K)) (D4 : Dk P w K mg base "_law_rest" "_law_rest" t__law_rest 1 ["number", "e", "n"] (sp__law_rest K)) (D5 : Dk P w K mg base "power_rest" "power_rest" t_power_rest 1 ["number", "e", "n"] (sp_power_rest K)) (D6 : Dk P w K mg base "does_pass" "does_pass_powerpasses" t_does_pass 2 ["n", "base"] (sp_does_pass K)) (D7 : Dk P w K mg base "_law_common" "_law_common" t__law_common 1 ["a", "b"] (sp__law_common K)) (D8 : Dk P w K mg base "_law_order" "_law_order" t__law_order 1 ["a", "n"] (sp__law_order K)) (D9 : Dk P w K mg base "power_order" "power_order" t_power_order 7 ["a", "n"] (sp_power_order K)) (D10 : Dk P w K mg base "order_counts" "order_counts" t_order_counts 7 ["n"] (sp_order_counts K)) (D11 : Dk P w K mg base "passes_number" "passes_number" t_passes_number 5 ["n"] (sp_passes_number K)) (D12 : Dk P w K mg base "rests_number" "rests_number" t_rests_number 6 ["n"] (sp_rests_number K)) (D13 : Dk P w K mg base "greatest_order" "greatest_order" t_greatest_order 6 ["n"] (sp_greatest_order K)) (D14 : Dk P w K mg base "is_as_prime" "is_as_prime" t_is_as_prime 5 ["n"] (sp_is_as_prime K)) (D15 : Dk P w K mg base "is_prime_number" "is_prime_number" t_is_prime_number 3 ["number"] (sp_is_prime_number K)) (D16 : Dk P w K mg base "_law_strong" "_law_strong" t__law_strong 2 ["n", "base"] (sp__law_strong K)) (D17 : Dk P w K mg base "does_pass_strongly" "does_pass_strongly" t_does_pass_strongly 2 ["n", "base"] (sp_does_pass_strongly K)) (D18 : Dk P w K mg base "strong_number" "strong_number" t_strong_number 5 ["n"] (sp_strong_number K)) (D19 : Dk P w K mg base "is_prime_told" "is_prime_told" t_is_prime_told 3 ["n"] (sp_is_prime_told K)) (D20 : Dk P w K mg base "parted_by_base" "parted_by_base" t_parted_by_base 3 ["n", "base"] (sp_parted_by_base K)) (D21 : Dk P w K mg base "least_showing" "least_showing" t_least_showing 4 ["n"] (sp_least_showing K)) (D22 : Dk P w K mg base "_law_are_known_right" "_law_are_known_right" t__law_are_known_right 7 ["pot", "known"] (sp__law_are_known_right K)) {f : Addr} {fd : FuncData} (F : Fun K "law" "law" t_law f fd) : FnG P w K mg base CX0 8 f fd ["script"] (spLaw K okLaw) := by
  obtain ⟨f0, fd0, F0, m0, G0, b0⟩ := D0
  obtain ⟨f1, fd1, F1, m1, G1, b1⟩ := D1
  obtain ⟨f2, fd2, F2, m2, G2, b2⟩ := D2
  obtain ⟨f3, fd3, F3, m3, G3, b3⟩ := D3
  obtain ⟨f4, fd4, F4, m4, G4, b4⟩ := D4
  obtain ⟨f5, fd5, F5, m5, G5, b5⟩ := D5
  obtain ⟨f6, fd6, F6, m6, G6, b6⟩ := D6
  obtain ⟨f7, fd7, F7, m7, G7, b7⟩ := D7
  obtain ⟨f8, fd8, F8, m8, G8, b8⟩ := D8
  obtain ⟨f9, fd9, F9, m9, G9, b9⟩ := D9
  obtain ⟨f10, fd10, F10, m10, G10, b10⟩ := D10
  obtain ⟨f11, fd11, F11, m11, G11, b11⟩ := D11
  obtain ⟨f12, fd12, F12, m12, G12, b12⟩ := D12
  obtain ⟨f13, fd13, F13, m13, G13, b13⟩ := D13
  obtain ⟨f14, fd14, F14, m14, G14, b14⟩ := D14
  obtain ⟨f15, fd15, F15, m15, G15, b15⟩ := D15
  obtain ⟨f16, fd16, F16, m16, G16, b16⟩ := D16
  obtain ⟨f17, fd17, F17, m17, G17, b17⟩ := D17
  obtain ⟨f18, fd18, F18, m18, G18, b18⟩ := D18
  obtain ⟨f19, fd19, F19, m19, G19, b19⟩ := D19
  obtain ⟨f20, fd20, F20, m20, G20, b20⟩ := D20
  obtain ⟨f21, fd21, F21, m21, G21, b21⟩ := D21
  obtain ⟨f22, fd22, F22, m22, G22, b22⟩ := D22
  refine okG0 F sc_law (fun vs H Q E h => ?_) (fun cdv A outer s0_ H vs Q E hr gd h => ?_)
  · obtain ⟨_, ⟨_, rfl, _⟩, _⟩ := h
    rfl
  · obtain ⟨p_script, ⟨v_script, rfl, r_script⟩, ⟨sP, s', hf, hm1⟩, fin0⟩ := h
    obtain ⟨r, hrt, hm0⟩ : ∃ r, r = true ∧ Mir.run m_law sP = some (r, s') := ⟨true, rfl, hm1⟩
    clear hm1
    unfold m_law at hm0
    have sc := sc_law
    refine ⟨_, pss_cons (ps_set (i := 1) sc.nd rfl (by first | exact Or.inl rfl | exact Or.inr rfl) (pe_cG G0 (hr.mono (by decide)) gd rfl m0 F0.kp b0 pass0 (pa_cons (pv 0) pa_nil))) (pss_cons (ps_set (i := 2) sc.nd rfl (by first | exact Or.inl rfl | exact Or.inr rfl) (pe_lst (pa_cons (pe_int) (pa_cons (pe_int) (pa_cons (pe_int) (pa_cons (pe_int) (pa_cons (pe_int) (pa_cons (pe_int) (pa_cons (pe_int) (pa_cons (pe_int) (pa_nil))))))))))) (pss_cons (ps_for PassesOwn.never rfl (pi_range1 rfl T.n_range (pa_cons (pe_int) pa_nil)) (pg_name (i := 3) sc.nd rfl (by first | exact Or.inl rfl | exact Or.inr rfl)) (pss_cons (ps_set (i := 4) sc.nd rfl (by first | exact Or.inl rfl | exact Or.inr rfl) (pe_op op_add (pe_int) (pe_cG G1 (hr.mono (by decide)) gd rfl m1 F1.kp b1 pass0 (pa_cons (pv 1) (pa_cons (pe_cG G2 (hr.mono (by decide)) gd rfl m2 F2.kp b2 pass0 (pa_cons (pv 1) (pa_cons (pe_lst (pa_cons (pe_int) (pa_cons (pe_int) (pa_cons (pe_int) (pa_nil))))) (pa_nil)))) (pa_nil)))))) (pss_cons (ps_set (i := 4) sc.nd rfl (by first | exact Or.inl rfl | exact Or.inr rfl) (pe_cG G2 (hr.mono (by decide)) gd rfl m2 F2.kp b2 pass0 (pa_cons (pv 1) (pa_cons (pe_lst (pa_cons (pv 4) (pa_cons (pv 4) (pa_cons (pv 4) (pa_cons (pe_cG G2 (hr.mono (by decide)) gd rfl m2 F2.kp b2 pass0 (pa_cons (pv 1) (pa_cons (pv 2) (pa_nil)))) (pa_cons (pe_int) (pa_cons (pe_int) (pa_cons (pe_int) (pa_cons (pe_int) (pa_nil)))))))))) (pa_nil))))) (pss_cons (ps_set (i := 5) sc.nd rfl (by first | exact Or.inl rfl | exact Or.inr rfl) (pe_cG G1 (hr.mono (by decide)) gd rfl m1 F1.kp b1 pass0 (pa_cons (pv 1) (pa_cons (pv 4) (pa_nil))))) (pss_cons (ps_set (i := 6) sc.nd rfl (by first | exact Or.inl rfl | exact Or.inr rfl) (pe_cG G3 (hr.mono (by decide)) gd rfl m3 F3.kp b3 pass0 (pa_cons (pv 4) (pa_nil)))) (pss_cons (ps_set (i := 7) sc.nd rfl (by first | exact Or.inl rfl | exact Or.inr rfl) (pe_cG G4 (hr.mono (by decide)) gd rfl m4 F4.kp b4 pass0 (pa_cons (pv 5) (pa_cons (pe_op op_sub (pv 4) (pe_int)) (pa_cons (pv 4) (pa_nil)))))) (pss_cons (ps_set (i := 8) sc.nd rfl (by first | exact Or.inl rfl | exact Or.inr rfl) (pe_lst (pa_cons (pe_cG G5 (hr.mono (by decide)) gd rfl m5 F5.kp b5 pass0 (pa_cons (pv 5) (pa_cons (pe_op op_sub (pv 4) (pe_int)) (pa_cons (pv 4) (pa_nil))))) (pa_cons (pe_cG G6 (hr.mono (by decide)) gd rfl m6 F6.kp b6 pass0 (pa_cons (pv 4) (pa_cons (pv 5) (pa_nil)))) (pa_nil))))) (pss_cons (ps_set (i := 9) sc.nd rfl (by first | exact Or.inl rfl | exact Or.inr rfl) (pe_lst (pa_cons (pe_cGK0 (ks := ["n", "e", "number"]) (ix := [2, 1, 0]) G5 (hr.mono (by decide)) gd rfl m5 F5.kp (Fun.kb F5 (ps := ["number", "e", "n"]) (ks := ["n", "e", "number"]) (n := 0) (ix := [2, 1, 0]) fun _ _ _ _ _ _ us ws h1 h2 => match us, ws, h1, h2 with | [], [_, _, _], _, _ => rfl) pass0 (pk_cons (pv 4) (pk_cons (pe_op op_sub (pv 4) (pe_int)) (pk_cons (pv 5) (pk_nil))))) (pa_cons (pe_cGK0 (ks := ["base", "n"]) (ix := [1, 0]) G6 (hr.mono (by decide)) gd rfl m6 F6.kp (Fun.kb F6 (ps := ["n", "base"]) (ks := ["base", "n"]) (n := 0) (ix := [1, 0]) fun _ _ _ _ _ _ us ws h1 h2 => match us, ws, h1, h2 with | [], [_, _], _, _ => rfl) pass0 (pk_cons (pv 5) (pk_cons (pv 4) (pk_nil)))) (pa_nil))))) (pss_cons (ps_if (pt_cmpR op_ne (pe_callB (k_repr K hr gd T.nd) (by rfl) T.n_repr (by decide +kernel) (pa_cons (pe_lst (pa_cons (pv 8) (pa_cons (pv 9) (pa_nil)))) pa_nil)) (pe_callB (k_repr K hr gd T.nd) (by rfl) T.n_repr (by decide +kernel) (pa_cons (pe_op op_rep (pe_lst (pa_cons (pe_lst (pa_cons (pv 7) (pa_cons (pe_cmpR op_eq (pv 7) (pe_int) (nomark _)) (pa_nil)))) (pa_nil))) (pe_int)) pa_nil)) (nomark _)) (pss_cons (ps_ret (pe_bl)) (pss_nil)) (pss_nil)) (pss_cons (ps_if (PW.pt (pw_and (pt_cmpR op_gt (pv 5) (pe_int) (nomark _)) (pw_and1 (pt_cmpR op_eq (pe_cG G7 (hr.mono (by decide)) gd rfl m7 F7.kp b7 pass0 (pa_cons (pv 5) (pa_cons (pv 4) (pa_nil)))) (pe_int) (nomark _))))) (pss_cons (ps_set (i := 14) sc.nd rfl (by first | exact Or.inl rfl | exact Or.inr rfl) (pe_cG G8 (hr.mono (by decide)) gd rfl m8 F8.kp b8 pass0 (pa_cons (pv 5) (pa_cons (pv 4) (pa_nil))))) (pss_cons (ps_if (PW.pt (pw_or (pt_cmpR op_ne (pe_cG G9 (hr.mono (by decide)) gd rfl m9 F9.kp b9 pass0 (pa_cons (pv 5) (pa_cons (pv 4) (pa_nil)))) (pv 14) (nomark _)) (pw_or1 (pt_cmpR op_ne (pe_cmpR op_eq (pv 7) (pe_int) (nomark _)) (pe_cmpR op_eq (pe_op op_mod (pe_op op_sub (pv 4) (pe_int)) (pv 14)) (pe_int) (nomark _)) (nomark _))))) (pss_cons (ps_ret (pe_bl)) (pss_nil)) (pss_nil)) (pss_nil))) (pss_cons (ps_if (pt_cmpR op_eq (pv 7) (pe_int) (nomark _)) (pss_cons (ps_ret (pe_bl)) (pss_nil)) (pss_nil)) (pss_nil))) (pss_cons (ps_set (i := 10) sc.nd rfl (by first | exact Or.inl rfl | exact Or.inr rfl) (pe_cG G10 (hr.mono (by decide)) gd rfl m10 F10.kp b10 pass0 (pa_cons (pv 4) (pa_nil)))) (pss_cons (ps_set (i := 11) sc.nd rfl (by first | exact Or.inl rfl | exact Or.inr rfl) (pe_callB (k_sum K) (by rfl) T.n_sum (by decide +kernel) (pa_cons (pe_lc (own := [("order", 14), ("many", 19)]) (g := (gTup K 2 (gCons (gName 14) (gCons (gName 19) gNil)))) rfl sc.nd (k_pit K (pv 10)) (blkOk_by (N := ["script", "pot", "known", "turn", "n", "base", "parting", "rest", "told", "named", "counts", "passes", "prime", "due", "order", "strong", "least", "one", "other", "many", "p", "k", "b"]) (sc := defScope t_law) (by decide +kernel)) (fun _ _ _ _ _ => k_gt K (pgs_cons (pg_name (i := 14) sc.nd rfl (by first | exact Or.inl rfl | exact Or.inr rfl)) (pgs_cons (pg_name (i := 19) sc.nd rfl (by first | exact Or.inl rfl | exact Or.inr rfl)) (pgs_nil)))) (fun _ _ _ _ _ => pts_one (pt_cmpR op_eq (pe_op op_mod (pe_op op_sub (pv 4) (pe_int)) (pv 14)) (pe_int) (nomark _))) (fun _ _ _ _ _ => pv 19)) pa_nil))) (pss_cons (ps_if (pt_cmpR op_ne (pe_callB (k_repr K hr gd T.nd) (by rfl) T.n_repr (by decide +kernel) (pa_cons (pe_lst (pa_cons (pe_cG G11 (hr.mono (by decide)) gd rfl m11 F11.kp b11 pass0 (pa_cons (pv 4) (pa_nil))) (pa_cons (pe_cGK0 (ks := ["n"]) (ix := [0]) G11 (hr.mono (by decide)) gd rfl m11 F11.kp (Fun.kb F11 (ps := ["n"]) (ks := ["n"]) (n := 0) (ix := [0]) fun _ _ _ _ _ _ us ws h1 h2 => match us, ws, h1, h2 with | [], [_], _, _ => rfl) pass0 (pk_cons (pv 4) (pk_nil))) (pa_nil)))) pa_nil)) (pe_callB (k_repr K hr gd T.nd) (by rfl) T.n_repr (by decide +kernel) (pa_cons (pe_op op_rep (pe_lst (pa_cons (pv 11) (pa_nil))) (pe_int)) pa_nil)) (nomark _)) (pss_cons (ps_ret (pe_bl)) (pss_nil)) (pss_nil)) (pss_cons (ps_if (pt_cmpR op_ne (pe_callB (k_sum K) (by rfl) T.n_sum (by decide +kernel) (pa_cons (pe_lc (own := [("order", 14), ("many", 19)]) (g := (gTup K 2 (gCons (gName 14) (gCons (gName 19) gNil)))) (tt := tYes) rfl sc.nd (k_pit K (pv 10)) (blkOk_by (N := ["script", "pot", "known", "turn", "n", "base", "parting", "rest", "told", "named", "counts", "passes", "prime", "due", "order", "strong", "least", "one", "other", "many", "p", "k", "b"]) (sc := defScope t_law) (by decide +kernel)) (fun _ _ _ _ _ => k_gt K (pgs_cons (pg_name (i := 14) sc.nd rfl (by first | exact Or.inl rfl | exact Or.inr rfl)) (pgs_cons (pg_name (i := 19) sc.nd rfl (by first | exact Or.inl rfl | exact Or.inr rfl)) (pgs_nil)))) (fun _ _ _ _ _ => pts_nil) (fun _ _ _ _ _ => pv 19)) pa_nil)) (pe_cG G12 (hr.mono (by decide)) gd rfl m12 F12.kp b12 pass0 (pa_cons (pv 4) (pa_nil))) (nomark _)) (pss_cons (ps_ret (pe_bl)) (pss_nil)) (pss_nil)) (pss_cons (ps_if (pt_cmpR op_ne (pe_callB (k_max K) (by rfl) T.n_max (by decide +kernel) (pa_cons (pe_lc (own := [("order", 14), ("many", 19)]) (g := (gTup K 2 (gCons (gName 14) (gCons (gName 19) gNil)))) (tt := tYes) rfl sc.nd (k_pit K (pv 10)) (blkOk_by (N := ["script", "pot", "known", "turn", "n", "base", "parting", "rest", "told", "named", "counts", "passes", "prime", "due", "order", "strong", "least", "one", "other", "many", "p", "k", "b"]) (sc := defScope t_law) (by decide +kernel)) (fun _ _ _ _ _ => k_gt K (pgs_cons (pg_name (i := 14) sc.nd rfl (by first | exact Or.inl rfl | exact Or.inr rfl)) (pgs_cons (pg_name (i := 19) sc.nd rfl (by first | exact Or.inl rfl | exact Or.inr rfl)) (pgs_nil)))) (fun _ _ _ _ _ => pts_nil) (fun _ _ _ _ _ => pv 14)) pa_nil)) (pe_cG G13 (hr.mono (by decide)) gd rfl m13 F13.kp b13 pass0 (pa_cons (pv 4) (pa_nil))) (nomark _)) (pss_cons (ps_ret (pe_bl)) (pss_nil)) (pss_nil)) (pss_cons (ps_set (i := 12) sc.nd rfl (by first | exact Or.inl rfl | exact Or.inr rfl) (pe_cmpR (k_eqD K hr) (pv 6) (pe_tup (pa_cons (pe_tup (pa_cons (pv 4) (pa_cons (pe_int) (pa_nil)))) (pa_nil))) (nomark _))) (pss_cons (ps_set (i := 13) sc.nd rfl (by first | exact Or.inl rfl | exact Or.inr rfl) (pe_and (pe_not (pv 12)) (pe_and (pe_cmpR op_eq (pe_op op_mod (pe_op op_sub (pv 4) (pe_int)) (pe_cG G13 (hr.mono (by decide)) gd rfl m13 F13.kp b13 pass0 (pa_cons (pv 4) (pa_nil)))) (pe_int) (nomark _)) (pe_one (pe_cmpR (k_eqD K hr) (pe_lc (own := [("p", 20), ("k", 21)]) (g := (gTup K 2 (gCons (gName 20) (gCons (gName 21) gNil)))) rfl sc.nd (k_pit K (pv 6)) (blkOk_by (N := ["script", "pot", "known", "turn", "n", "base", "parting", "rest", "told", "named", "counts", "passes", "prime", "due", "order", "strong", "least", "one", "other", "many", "p", "k", "b"]) (sc := defScope t_law) (by decide +kernel)) (fun _ _ _ _ _ => k_gt K (pgs_cons (pg_name (i := 20) sc.nd rfl (by first | exact Or.inl rfl | exact Or.inr rfl)) (pgs_cons (pg_name (i := 21) sc.nd rfl (by first | exact Or.inl rfl | exact Or.inr rfl)) (pgs_nil)))) (fun _ _ _ _ _ => pts_one (pt_cmpR op_gt (pv 21) (pe_int) (nomark _))) (fun _ _ _ _ _ => pv 21)) (pe_lst (pa_nil)) (nomark _)))))) (pss_cons (ps_if (pt_cmpR op_ne (pe_callB (k_repr K hr gd T.nd) (by rfl) T.n_repr (by decide +kernel) (pa_cons (pe_lst (pa_cons (pe_cG G14 (hr.mono (by decide)) gd rfl m14 F14.kp b14 pass0 (pa_cons (pv 4) (pa_nil))) (pa_cons (pe_cGK0 (ks := ["n"]) (ix := [0]) G14 (hr.mono (by decide)) gd rfl m14 F14.kp (Fun.kb F14 (ps := ["n"]) (ks := ["n"]) (n := 0) (ix := [0]) fun _ _ _ _ _ _ us ws h1 h2 => match us, ws, h1, h2 with | [], [_], _, _ => rfl) pass0 (pk_cons (pv 4) (pk_nil))) (pa_cons (pe_cG G15 (hr.mono (by decide)) gd rfl m15 F15.kp b15 pass0 (pa_cons (pv 4) (pa_nil))) (pa_nil))))) pa_nil)) (pe_callB (k_repr K hr gd T.nd) (by rfl) T.n_repr (by decide +kernel) (pa_cons (pe_lst (pa_cons (pv 13) (pa_cons (pv 13) (pa_cons (pv 12) (pa_nil))))) pa_nil)) (nomark _)) (pss_cons (ps_ret (pe_bl)) (pss_nil)) (pss_nil)) (pss_cons (ps_if (pt_cmpR op_ne (pv 13) (pe_and (pe_not (pv 12)) (pe_one (pe_cmpR op_eq (pv 11) (pe_cG G12 (hr.mono (by decide)) gd rfl m12 F12.kp b12 pass0 (pa_cons (pv 4) (pa_nil))) (nomark _)))) (nomark _)) (pss_cons (ps_ret (pe_bl)) (pss_nil)) (pss_nil)) (pss_cons (ps_if (pt_cmpR op_eq (pe_op op_mod (pv 4) (pe_int)) (pe_int) (nomark _)) (pss_cons (ps_set (i := 15) sc.nd rfl (by first | exact Or.inl rfl | exact Or.inr rfl) (pe_cG G16 (hr.mono (by decide)) gd rfl m16 F16.kp b16 pass0 (pa_cons (pv 4) (pa_cons (pv 5) (pa_nil))))) (pss_cons (ps_if (pt_cmpR op_ne (pe_callB (k_repr K hr gd T.nd) (by rfl) T.n_repr (by decide +kernel) (pa_cons (pe_lst (pa_cons (pe_cG G17 (hr.mono (by decide)) gd rfl m17 F17.kp b17 pass0 (pa_cons (pv 4) (pa_cons (pv 5) (pa_nil)))) (pa_cons (pe_cGK0 (ks := ["base", "n"]) (ix := [1, 0]) G17 (hr.mono (by decide)) gd rfl m17 F17.kp (Fun.kb F17 (ps := ["n", "base"]) (ks := ["base", "n"]) (n := 0) (ix := [1, 0]) fun _ _ _ _ _ _ us ws h1 h2 => match us, ws, h1, h2 with | [], [_, _], _, _ => rfl) pass0 (pk_cons (pv 5) (pk_cons (pv 4) (pk_nil)))) (pa_nil)))) pa_nil)) (pe_callB (k_repr K hr gd T.nd) (by rfl) T.n_repr (by decide +kernel) (pa_cons (pe_lst (pa_cons (pv 15) (pa_cons (pv 15) (pa_nil)))) pa_nil)) (nomark _)) (pss_cons (ps_ret (pe_bl)) (pss_nil)) (pss_nil)) (pss_cons (ps_if (PW.pt (pw_and (pt_cmpR op_lt (pv 4) (pe_int) (nomark _)) (pw_and1 (pt_cmpR op_ne (pe_cG G18 (hr.mono (by decide)) gd rfl m18 F18.kp b18 pass0 (pa_cons (pv 4) (pa_nil))) (pe_callB (k_len K) (by rfl) T.n_len (by decide +kernel) (pa_cons (pe_lc (own := [("b", 22)]) (g := (gName 22)) rfl sc.nd (pi_range1 rfl T.n_range (pa_cons (pv 4) pa_nil)) (blkOk_by (N := ["script", "pot", "known", "turn", "n", "base", "parting", "rest", "told", "named", "counts", "passes", "prime", "due", "order", "strong", "least", "one", "other", "many", "p", "k", "b"]) (sc := defScope t_law) (by decide +kernel)) (fun _ _ _ _ _ => pg_name (i := 22) sc.nd rfl (by first | exact Or.inl rfl | exact Or.inr rfl)) (fun _ _ _ _ _ => pts_one (pt_val (pe_cG G16 (hr.mono (by decide)) gd rfl m16 F16.kp b16 pass0 (pa_cons (pv 4) (pa_cons (pv 22) (pa_nil)))))) (fun _ _ _ _ _ => pv 22)) pa_nil)) (nomark _))))) (pss_cons (ps_ret (pe_bl)) (pss_nil)) (pss_nil)) (pss_cons (ps_if (PW.pt (pw_or (PW.pt (pw_and (pt_val (pv 15)) (pw_and1 (pt_cmpR op_ne (pv 7) (pe_int) (nomark _))))) (pw_or1 (pt_cmpR op_ne (pe_callB (k_repr K hr gd T.nd) (by rfl) T.n_repr (by decide +kernel) (pa_cons (pe_cG G19 (hr.mono (by decide)) gd rfl m19 F19.kp b19 pass0 (pa_cons (pv 4) (pa_nil))) pa_nil)) (pe_callB (k_repr K hr gd T.nd) (by rfl) T.n_repr (by decide +kernel) (pa_cons (pv 12) pa_nil)) (nomark _))))) (pss_cons (ps_ret (pe_bl)) (pss_nil)) (pss_nil)) (pss_cons (ps_if (PW.pt (pw_and (pt_cmpR op_eq (pv 7) (pe_int) (nomark _)) (pw_and1 (pt_not (pt_val (pv 15)))))) (pss_cons (ps_asg (pe_cG G20 (hr.mono (by decide)) gd rfl m20 F20.kp b20 pass0 (pa_cons (pv 4) (pa_cons (pv 5) (pa_nil)))) (k_gt K (pgs_cons (pg_name (i := 17) sc.nd rfl (by first | exact Or.inl rfl | exact Or.inr rfl)) (pgs_cons (pg_name (i := 18) sc.nd rfl (by first | exact Or.inl rfl | exact Or.inr rfl)) (pgs_nil))))) (pss_cons (ps_if (PW.pt (pw_or (pt_cmpR op_ne (pe_op op_mulX (pv 17) (pv 18)) (pv 4) (nomark _)) (pw_or (pt_cmpR op_lt (pv 17) (pe_int) (nomark _)) (pw_or1 (pt_cmpR op_gt (pv 17) (pv 18) (nomark _)))))) (pss_cons (ps_ret (pe_bl)) (pss_nil)) (pss_nil)) (pss_nil))) (pss_nil)) (pss_cons (ps_if (pt_not (pt_val (pv 12))) (pss_cons (ps_set (i := 16) sc.nd rfl (by first | exact Or.inl rfl | exact Or.inr rfl) (pe_cG G21 (hr.mono (by decide)) gd rfl m21 F21.kp b21 pass0 (pa_cons (pv 4) (pa_nil)))) (pss_cons (ps_if (PW.pt (pw_or (pt_val (pe_cG G16 (hr.mono (by decide)) gd rfl m16 F16.kp b16 pass0 (pa_cons (pv 4) (pa_cons (pv 16) (pa_nil))))) (pw_or1 (pt_cmpR (k_neD K hr) (pe_lc (own := [("b", 22)]) (g := (gName 22)) rfl sc.nd (pi_range2 rfl T.n_range (pa_cons (pe_int) (pa_cons (pv 16) pa_nil))) (blkOk_by (N := ["script", "pot", "known", "turn", "n", "base", "parting", "rest", "told", "named", "counts", "passes", "prime", "due", "order", "strong", "least", "one", "other", "many", "p", "k", "b"]) (sc := defScope t_law) (by decide +kernel)) (fun _ _ _ _ _ => pg_name (i := 22) sc.nd rfl (by first | exact Or.inl rfl | exact Or.inr rfl)) (fun _ _ _ _ _ => pts_one (pt_not (pt_val (pe_cG G16 (hr.mono (by decide)) gd rfl m16 F16.kp b16 pass0 (pa_cons (pv 4) (pa_cons (pv 22) (pa_nil))))))) (fun _ _ _ _ _ => pv 22)) (pe_lst (pa_nil)) (nomark _))))) (pss_cons (ps_ret (pe_bl)) (pss_nil)) (pss_nil)) (pss_nil))) (pss_nil)) (pss_nil))))))) (pss_nil)) (pss_nil))))))))))))))))))))) (pss_cons (ps_ret (pe_cG G22 (hr.mono (by decide)) gd rfl m22 F22.kp b22 pass0 (pa_cons (pv 1) (pa_cons (pv 2) (pa_nil))))) (pss_nil)))), ?_⟩
    refine q_pot (hd := potHd) (S := H) Ex.rf rfl r_script hf (fun v => [some v_script, some v, none, none, none, none, none, none, none, none, none, none, none, none, none, none, none, none, none, none, none, none, none]) (fun _ => rfl) ?_
    intro i S0 H0 w0 p0 g0
    have fin : ∀ v {H' : Hp}, (∃ S', Gm (potPt i).M S0 H0 S' H' ∧ PotAt (potPt i) s' S' H' ∧ rB r v S') → Q v H' := fun v {H'} ⟨S', _, _, h3⟩ => by cases hrt; cases (show v = .bl true from h3); exact fin0 H'
    refine q_set (fun v => [some v_script, some (.ref i.a), some v, none, none, none, none, none, none, none, none, none, none, none, none, none, none, none, none, none, none, none, none]) (fun _ => rfl) w0 p0 (EvL.frz (l_lstL (a_consL e_cI (a_consL e_cI (a_consL e_cI (a_consL e_cI (a_consL e_cI (a_consL e_cI (a_consL e_cI (a_consL e_cI (a_nilL (R := rI)))))))))))) hm0 ?_
    intro known1 vknown9 S2 H3 s4 w5 p6 g8 rknown10 hm7
    refine q_forC (p := (potPt i)) (ρ := Bool) w5 p6 (i_R1 e_cI) (g_nm (R := rI)) hm7 (fun Sb12 st11 σ S' H' s' => Ex Sb12 S' ∧ (∃ (xturn_ : Option V) (xn_ : Option V) (xbase_ : Option V) (xparting_ : Option V) (xrest_ : Option V) (xtold_ : Option V) (xnamed_ : Option V) (xcounts_ : Option V) (xpasses_ : Option V) (xprime_ : Option V) (xdue_ : Option V) (xorder_ : Option V) (xstrong_ : Option V) (xleast_ : Option V) (xone_ : Option V) (xother_ : Option V), σ = [some v_script, some (.ref i.a), some vknown9, xturn_, xn_, xbase_, xparting_, xrest_, xtold_, xnamed_, xcounts_, xpasses_, xprime_, xdue_, xorder_, xstrong_, xleast_, xone_, xother_, none, none, none, none] ∧ Wd (potPt i) S0 H0 S' H' [] ∧ PotAt (potPt i) s' S' H' ∧ Ex S2 S')) (fun r v H' s' => ∃ S', Gm ((potPt i)).M S0 H0 S' H' ∧ PotAt (potPt i) s' S' H' ∧ rB r v S') ?_ ?_ ?_ ?_ ?_ ?_
    · intro S14 H15 s16 w17 p18 g19
      have rknown10 := Mo.mo g19.s rknown10
      exact ⟨Ex.rf, ⟨_, _, _, _, _, _, _, _, _, _, _, _, _, _, _, _, rfl, w17, p18, g19.s⟩⟩
    · rintro Sb12 st11 _ S39 H40 s41 ⟨ex42, ⟨xturn20, xn21, xbase22, xparting23, xrest24, xtold25, xnamed26, xcounts27, xpasses28, xprime29, xdue30, xorder31, xstrong32, xleast33, xone34, xother35, rfl, w36, p37, eb38⟩⟩
      exact ⟨ex42, w36.i, p37, ownOk0⟩
    · rintro Sb12 st11 _ S62 H63 s64 S65 H66 ⟨ex68, ⟨xturn43, xn44, xbase45, xparting46, xrest47, xtold48, xnamed49, xcounts50, xpasses51, xprime52, xdue53, xorder54, xstrong55, xleast56, xone57, xother58, rfl, w59, p60, eb61⟩⟩ g67
      exact ⟨ex68.tr g67.s, _, _, _, _, _, _, _, _, _, _, _, _, _, _, _, _, rfl, w59.go (Gm.up g67), PotAt.go p60 g67, eb61.tr g67.s⟩
    · rintro Sb12 x13 st11 _ σ96 S88 H89 s90 st11_ s2_ D_ ⟨ex95, ⟨xturn69, xn70, xbase71, xparting72, xrest73, xtold74, xnamed75, xcounts76, xpasses77, xprime78, xdue79, xorder80, xstrong81, xleast82, xone83, xother84, rfl, w85, p86, eb87⟩⟩ hp hm91 nx92 bk93 rt94
      obtain ⟨_, rfl, rfl⟩ := hp
      have rknown10 := Mo.mo eb87 rknown10
      refine q_set (fun v => [some v_script, some (.ref i.a), some vknown9, some (.int x13), some v, xbase71, xparting72, xrest73, xtold74, xnamed75, xcounts76, xpasses77, xprime78, xdue79, xorder80, xstrong81, xleast82, xone83, xother84, none, none, none, none]) (fun _ => rfl) w85 p86 (e_add e_cI (Ev.eta (e_callP (F := fun i => potPt i) (i := i) (A := fun i => (aCons (rP i) (aOne rI))) (E := E0) (fm := fm__law_of) (R := rI) (a_cons (e_var (R := rP i) (a := ()) rfl rfl) (a_one (Ev.eta (e_callP (F := fun i => potPt i) (i := i) (A := fun i => (aCons (rP i) (aOne (rL (aAll rI))))) (E := E0) (fm := fm__law_one) (R := rI) (a_cons (e_var (R := rP i) (a := ()) rfl rfl) (a_one (EvL.frz (l_lstL (a_consL e_cI (a_consL e_cI (a_consL e_cI (a_nilL (R := rI)))))))))))))))) hm91 ?_
      intro n97 vn105 S98 H99 s100 w101 p102 g104 rn106 hm103
      cases (show vn105 = .int n97 from rn106)
      have rknown10 := Mo.mo g104.s rknown10
      have eb87 := eb87.tr g104.s
      have ex95 := ex95.tr g104.s
      refine q_set (fun v => [some v_script, some (.ref i.a), some vknown9, some (.int x13), some v, xbase71, xparting72, xrest73, xtold74, xnamed75, xcounts76, xpasses77, xprime78, xdue79, xorder80, xstrong81, xleast82, xone83, xother84, none, none, none, none]) (fun _ => rfl) w101 p102 (Ev.eta (e_callP (F := fun i => potPt i) (i := i) (A := fun i => (aCons (rP i) (aOne (rL (aAll rI))))) (E := E0) (fm := fm__law_one) (R := rI) (a_cons (e_var (R := rP i) (a := ()) rfl rfl) (a_one (EvL.frz (l_lstL (a_consL (e_var (R := rI) rfl rfl) (a_consL (e_var (R := rI) rfl rfl) (a_consL (e_var (R := rI) rfl rfl) (a_consL (Ev.eta (e_callP (F := fun i => potPt i) (i := i) (A := fun i => (aCons (rP i) (aOne (rL (aAll rI))))) (E := E0) (fm := fm__law_one) (R := rI) (a_cons (e_var (R := rP i) (a := ()) rfl rfl) (a_one (e_var rfl rknown10))))) (a_consL e_cI (a_consL e_cI (a_consL e_cI (a_consL e_cI (a_nilL (R := rI)))))))))))))))) hm103 ?_
      intro n107 vn115 S108 H109 s110 w111 p112 g114 rn116 hm113
      cases (show vn115 = .int n107 from rn116)
      have rknown10 := Mo.mo g114.s rknown10
      have eb87 := eb87.tr g114.s
      have ex95 := ex95.tr g114.s
      refine q_set (fun v => [some v_script, some (.ref i.a), some vknown9, some (.int x13), some (.int n107), some v, xparting72, xrest73, xtold74, xnamed75, xcounts76, xpasses77, xprime78, xdue79, xorder80, xstrong81, xleast82, xone83, xother84, none, none, none, none]) (fun _ => rfl) w111 p112 (Ev.eta (e_callP (F := fun i => potPt i) (i := i) (A := fun i => (aCons (rP i) (aOne rI))) (E := E0) (fm := fm__law_of) (R := rI) (a_cons (e_var (R := rP i) (a := ()) rfl rfl) (a_one (e_var (R := rI) rfl rfl))))) hm113 ?_
      intro base117 vbase125 S118 H119 s120 w121 p122 g124 rbase126 hm123
      cases (show vbase125 = .int base117 from rbase126)
      have rknown10 := Mo.mo g124.s rknown10
      have eb87 := eb87.tr g124.s
      have ex95 := ex95.tr g124.s
      refine q_set (fun v => [some v_script, some (.ref i.a), some vknown9, some (.int x13), some (.int n107), some (.int base117), some v, xrest73, xtold74, xnamed75, xcounts76, xpasses77, xprime78, xdue79, xorder80, xstrong81, xleast82, xone83, xother84, none, none, none, none]) (fun _ => rfl) w121 p122 (Ev.eta (e_call (E := E0) (fm := fm__law_primes) (R := (rT K (aAll (rT K (aCons rI (aOne rI)))))) (a_one (e_var (R := rI) rfl rfl)))) hm123 ?_
      intro parting127 vparting135 S128 H129 s130 w131 p132 g134 rparting136 hm133
      have rknown10 := Mo.mo g134.s rknown10
      have eb87 := eb87.tr g134.s
      have ex95 := ex95.tr g134.s
      refine q_set (fun v => [some v_script, some (.ref i.a), some vknown9, some (.int x13), some (.int n107), some (.int base117), some vparting135, some v, xtold74, xnamed75, xcounts76, xpasses77, xprime78, xdue79, xorder80, xstrong81, xleast82, xone83, xother84, none, none, none, none]) (fun _ => rfl) w131 p132 (Ev.eta (e_call (E := E0) (fm := fm__law_rest) (R := rI) (a_cons (e_var (R := rI) rfl rfl) (a_cons (e_sub (e_var (R := rI) rfl rfl) e_cI) (a_one (e_var (R := rI) rfl rfl)))))) hm133 ?_
      intro rest137 vrest145 S138 H139 s140 w141 p142 g144 rrest146 hm143
      cases (show vrest145 = .int rest137 from rrest146)
      have rknown10 := Mo.mo g144.s rknown10
      have rparting136 := Mo.mo g144.s rparting136
      have eb87 := eb87.tr g144.s
      have ex95 := ex95.tr g144.s
      refine q_set (fun v => [some v_script, some (.ref i.a), some vknown9, some (.int x13), some (.int n107), some (.int base117), some vparting135, some (.int rest137), some v, xnamed75, xcounts76, xpasses77, xprime78, xdue79, xorder80, xstrong81, xleast82, xone83, xother84, none, none, none, none]) (fun _ => rfl) w141 p142 (EvL.frz (l_lst (a_cons (Ev.eta (e_call (E := E0) (fm := fm_power_rest) (R := rI) (a_cons (e_var (R := rI) rfl rfl) (a_cons (e_sub (e_var (R := rI) rfl rfl) e_cI) (a_one (e_var (R := rI) rfl rfl)))))) (a_one (Ev.eta (e_call (E := E0) (fm := fm_does_pass) (R := rB) (a_cons (e_var (R := rI) rfl rfl) (a_one (e_var (R := rI) rfl rfl))))))) (arN_cons arN_one) (by decide))) hm143 ?_
      intro told147 vtold155 S148 H149 s150 w151 p152 g154 rtold156 hm153
      have rknown10 := Mo.mo g154.s rknown10
      have rparting136 := Mo.mo g154.s rparting136
      have eb87 := eb87.tr g154.s
      have ex95 := ex95.tr g154.s
      refine q_set (fun v => [some v_script, some (.ref i.a), some vknown9, some (.int x13), some (.int n107), some (.int base117), some vparting135, some (.int rest137), some vtold155, some v, xcounts76, xpasses77, xprime78, xdue79, xorder80, xstrong81, xleast82, xone83, xother84, none, none, none, none]) (fun _ => rfl) w151 p152 (EvL.frz (l_lst (a_cons (e_callK (E := E0) (n := 0) (m' := 3) (ix := [2, 1, 0]) (fm := fm_power_rest) (A := (aCons rI (aCons rI (aOne rI)))) (A1 := aNil) (A2 := (aCons rI (aCons rI (aOne rI)))) (R := rI) (fun a b => (b.2.2, b.2.1, b.1)) a_nil (a_cons (e_var (R := rI) rfl rfl) (a_cons (e_sub (e_var (R := rI) rfl rfl) e_cI) (a_one (e_var (R := rI) rfl rfl)))) (fun a b vs zs S h1 h2 => by obtain rfl := h1; obtain ⟨_, _, rfl, y0, ⟨_, _, rfl, y1, ⟨_, rfl, y2⟩⟩⟩ := h2; exact ⟨rfl, rfl, ⟨_, _, rfl, y2, ⟨_, _, rfl, y1, ⟨_, rfl, y0⟩⟩⟩⟩)) (a_one (e_callK (E := E0) (n := 0) (m' := 2) (ix := [1, 0]) (fm := fm_does_pass) (A := (aCons rI (aOne rI))) (A1 := aNil) (A2 := (aCons rI (aOne rI))) (R := rB) (fun a b => (b.2, b.1)) a_nil (a_cons (e_var (R := rI) rfl rfl) (a_one (e_var (R := rI) rfl rfl))) (fun a b vs zs S h1 h2 => by obtain rfl := h1; obtain ⟨_, _, rfl, y0, ⟨_, rfl, y1⟩⟩ := h2; exact ⟨rfl, rfl, ⟨_, _, rfl, y1, ⟨_, rfl, y0⟩⟩⟩)))) (arN_cons arN_one) (by decide))) hm153 ?_
      intro named157 vnamed165 S158 H159 s160 w161 p162 g164 rnamed166 hm163
      have rknown10 := Mo.mo g164.s rknown10
      have rparting136 := Mo.mo g164.s rparting136
      have rtold156 := Mo.mo g164.s rtold156
      have eb87 := eb87.tr g164.s
      have ex95 := ex95.tr g164.s
      refine q_if w161 p162 (t_Test (e_neW (c_repr (EvL.frz (l_lstL (a_consL (e_var rfl rtold156) (a_consL (e_var rfl rnamed166) (a_nilL (R := (rL (aCons rI (aOne rB))))))))) (d_L (ds_all (d_L (ds_cons d_I (ds_one d_B)))))) (c_repr (EvL.frz (l_rep (EvL.rd (l_lstL (a_consL (EvL.frz (l_lst (a_cons (e_var (R := rI) rfl rfl) (a_one (e_eq (e_var (R := rI) rfl rfl) e_cI))) (arN_cons arN_one) (by decide))) (a_nilL (R := (rL (aCons rI (aOne rB)))))))) e_cI)) (d_L (ds_all (d_L (ds_cons d_I (ds_one d_B)))))))) hm163 ?_ ?_
      · intro S167 H168 s169 w170 p171 g172 hm173
        have rknown10 := Mo.mo g172.s rknown10
        have rparting136 := Mo.mo g172.s rparting136
        have rtold156 := Mo.mo g172.s rtold156
        have rnamed166 := Mo.mo g172.s rnamed166
        have eb87 := eb87.tr g172.s
        have ex95 := ex95.tr g172.s
        refine q_ret w170 p171 e_cB hm173 ?_
        intro r181 v182 S174 H175 s176 w177 p178 g180 rr183 hm179
        cases run_of_pure hm179
        exact rt94 _ _ _ rfl ⟨S174, w177.g, p178, rr183⟩
      · intro S184 H185 s186 w187 p188 g189 hm190
        have rknown10 := Mo.mo g189.s rknown10
        have rparting136 := Mo.mo g189.s rparting136
        have rtold156 := Mo.mo g189.s rtold156
        have rnamed166 := Mo.mo g189.s rnamed166
        have eb87 := eb87.tr g189.s
        have ex95 := ex95.tr g189.s
        refine nx_done ?_
        refine q_if w187 p188 (t_and (t_Test (e_gt (e_var (R := rI) rfl rfl) e_cI)) (t_Test (e_eq (Ev.eta (e_call (E := E0) (fm := fm__law_common) (R := rI) (a_cons (e_var (R := rI) rfl rfl) (a_one (e_var (R := rI) rfl rfl))))) e_cI))) hm190 ?_ ?_
        · intro S191 H192 s193 w194 p195 g196 hm197
          have rknown10 := Mo.mo g196.s rknown10
          have rparting136 := Mo.mo g196.s rparting136
          have rtold156 := Mo.mo g196.s rtold156
          have rnamed166 := Mo.mo g196.s rnamed166
          have eb87 := eb87.tr g196.s
          have ex95 := ex95.tr g196.s
          refine q_set (fun v => [some v_script, some (.ref i.a), some vknown9, some (.int x13), some (.int n107), some (.int base117), some vparting135, some (.int rest137), some vtold155, some vnamed165, xcounts76, xpasses77, xprime78, xdue79, some v, xstrong81, xleast82, xone83, xother84, none, none, none, none]) (fun _ => rfl) w194 p195 (Ev.eta (e_call (E := E0) (fm := fm__law_order) (R := rI) (a_cons (e_var (R := rI) rfl rfl) (a_one (e_var (R := rI) rfl rfl))))) hm197 ?_
          intro order198 vorder206 S199 H200 s201 w202 p203 g205 rorder207 hm204
          cases (show vorder206 = .int order198 from rorder207)
          have rknown10 := Mo.mo g205.s rknown10
          have rparting136 := Mo.mo g205.s rparting136
          have rtold156 := Mo.mo g205.s rtold156
          have rnamed166 := Mo.mo g205.s rnamed166
          have eb87 := eb87.tr g205.s
          have ex95 := ex95.tr g205.s
          refine q_if w202 p203 (t_or (t_Test (e_ne (Ev.eta (e_call (E := E0) (fm := fm_power_order) (R := rI) (a_cons (e_var (R := rI) rfl rfl) (a_one (e_var (R := rI) rfl rfl))))) (e_var (R := rI) rfl rfl))) (t_Test (e_ne (e_eq (e_var (R := rI) rfl rfl) e_cI) (e_eq (e_mod (e_sub (e_var (R := rI) rfl rfl) e_cI) (e_var (R := rI) rfl rfl)) e_cI)))) hm204 ?_ ?_
          · intro S208 H209 s210 w211 p212 g213 hm214
            have rknown10 := Mo.mo g213.s rknown10
            have rparting136 := Mo.mo g213.s rparting136
            have rtold156 := Mo.mo g213.s rtold156
            have rnamed166 := Mo.mo g213.s rnamed166
            have eb87 := eb87.tr g213.s
            have ex95 := ex95.tr g213.s
            refine q_ret w211 p212 e_cB hm214 ?_
            intro r222 v223 S215 H216 s217 w218 p219 g221 rr224 hm220
            cases run_of_pure hm220
            exact rt94 _ _ _ rfl ⟨S215, w218.g, p219, rr224⟩
          · intro S225 H226 s227 w228 p229 g230 hm231
            have rknown10 := Mo.mo g230.s rknown10
            have rparting136 := Mo.mo g230.s rparting136
            have rtold156 := Mo.mo g230.s rtold156
            have rnamed166 := Mo.mo g230.s rnamed166
            have eb87 := eb87.tr g230.s
            have ex95 := ex95.tr g230.s
            refine nx_done ?_
            refine nx_done ?_
            refine q_set (fun v => [some v_script, some (.ref i.a), some vknown9, some (.int x13), some (.int n107), some (.int base117), some vparting135, some (.int rest137), some vtold155, some vnamed165, some v, xpasses77, xprime78, xdue79, some (.int order198), xstrong81, xleast82, xone83, xother84, none, none, none, none]) (fun _ => rfl) w228 p229 (Ev.eta (e_call (E := E0) (fm := fm_order_counts) (R := (rT K (aAll (rT K (aCons rI (aOne rI)))))) (a_one (e_var (R := rI) rfl rfl)))) hm231 ?_
            intro counts232 vcounts240 S233 H234 s235 w236 p237 g239 rcounts241 hm238
            have rknown10 := Mo.mo g239.s rknown10
            have rparting136 := Mo.mo g239.s rparting136
            have rtold156 := Mo.mo g239.s rtold156
            have rnamed166 := Mo.mo g239.s rnamed166
            have eb87 := eb87.tr g239.s
            have ex95 := ex95.tr g239.s
            refine q_set (fun v => [some v_script, some (.ref i.a), some vknown9, some (.int x13), some (.int n107), some (.int base117), some vparting135, some (.int rest137), some vtold155, some vnamed165, some vcounts240, some v, xprime78, xdue79, some (.int order198), xstrong81, xleast82, xone83, xother84, none, none, none, none]) (fun _ => rfl) w236 p237 (c_sum (EvL.rd (l_lc (γ := Int) (vs := [14, 19]) (mt := fun x242 k => Mir.lft (grd (0 < x242.1)) >>= fun _ => k (decide (((n107 - (1 : Int)) % x242.1) = (0 : Int)))) (me := fun x242 k => k x242.2) (R' := rI) (i_T (e_var rfl rcounts241)) ownOk0 (g_tp (gq_cons (g_nm (R := rI)) (gq_one (g_nm (R := rI))))) (fun x σ' S hp => by obtain ⟨_, ⟨_, rfl, _⟩, ⟨_, rfl, _⟩⟩ := hp; rfl) (fun x242 σ' S1 H1 g243 hp => by have w244 := w236.go g243; obtain ⟨_, ⟨_, rfl, rfl⟩, ⟨_, rfl, rfl⟩⟩ := hp; have rknown10 := Mo.mo g243.s rknown10; have rparting136 := Mo.mo g243.s rparting136; have rtold156 := Mo.mo g243.s rtold156; have rnamed166 := Mo.mo g243.s rnamed166; have rcounts241 := Mo.mo g243.s rcounts241; exact (t_Test (e_eq (e_mod (e_sub (e_var (R := rI) rfl rfl) e_cI) (e_var (R := rI) rfl rfl)) e_cI))) (fun x242 σ' S1 H1 g243 hp => by have w244 := w236.go g243; obtain ⟨_, ⟨_, rfl, rfl⟩, ⟨_, rfl, rfl⟩⟩ := hp; have rknown10 := Mo.mo g243.s rknown10; have rparting136 := Mo.mo g243.s rparting136; have rtold156 := Mo.mo g243.s rtold156; have rnamed166 := Mo.mo g243.s rnamed166; have rcounts241 := Mo.mo g243.s rcounts241; exact (e_var (R := rI) rfl rfl)) (pm_cons pm_nm pm_nm)))) hm238 ?_
            intro passes245 vpasses253 S246 H247 s248 w249 p250 g252 rpasses254 hm251
            cases (show vpasses253 = .int passes245 from rpasses254)
            have rknown10 := Mo.mo g252.s rknown10
            have rparting136 := Mo.mo g252.s rparting136
            have rtold156 := Mo.mo g252.s rtold156
            have rnamed166 := Mo.mo g252.s rnamed166
            have rcounts241 := Mo.mo g252.s rcounts241
            have eb87 := eb87.tr g252.s
            have ex95 := ex95.tr g252.s
            refine q_if w249 p250 (t_Test (e_neW (c_repr (EvL.frz (l_lstL (a_consL (Ev.eta (e_call (E := E0) (fm := fm_passes_number) (R := rI) (a_one (e_var (R := rI) rfl rfl)))) (a_consL (e_callK (E := E0) (n := 0) (m' := 1) (ix := [0]) (fm := fm_passes_number) (A := (aOne rI)) (A1 := aNil) (A2 := (aOne rI)) (R := rI) (fun a b => b) a_nil (a_one (e_var (R := rI) rfl rfl)) (fun a b vs zs S h1 h2 => by obtain rfl := h1; obtain ⟨_, rfl, y0⟩ := h2; exact ⟨rfl, rfl, ⟨_, rfl, y0⟩⟩)) (a_nilL (R := rI)))))) (d_L (ds_all d_I))) (c_repr (EvL.frz (l_rep (EvL.rd (l_lstL (a_consL (e_var (R := rI) rfl rfl) (a_nilL (R := rI))))) e_cI)) (d_L (ds_all d_I))))) hm251 ?_ ?_
            · intro S255 H256 s257 w258 p259 g260 hm261
              have rknown10 := Mo.mo g260.s rknown10
              have rparting136 := Mo.mo g260.s rparting136
              have rtold156 := Mo.mo g260.s rtold156
              have rnamed166 := Mo.mo g260.s rnamed166
              have rcounts241 := Mo.mo g260.s rcounts241
              have eb87 := eb87.tr g260.s
              have ex95 := ex95.tr g260.s
              refine q_ret w258 p259 e_cB hm261 ?_
              intro r269 v270 S262 H263 s264 w265 p266 g268 rr271 hm267
              cases run_of_pure hm267
              exact rt94 _ _ _ rfl ⟨S262, w265.g, p266, rr271⟩
            · intro S272 H273 s274 w275 p276 g277 hm278
              have rknown10 := Mo.mo g277.s rknown10
              have rparting136 := Mo.mo g277.s rparting136
              have rtold156 := Mo.mo g277.s rtold156
              have rnamed166 := Mo.mo g277.s rnamed166
              have rcounts241 := Mo.mo g277.s rcounts241
              have eb87 := eb87.tr g277.s
              have ex95 := ex95.tr g277.s
              refine nx_done ?_
              refine q_if w275 p276 (t_Test (e_ne (c_sum (EvL.rd (l_lc1T (vs := [14, 19]) (f := (fun x279 => x279.2)) (R' := rI) (i_T (e_var rfl rcounts241)) ownOk0 (g_tp (gq_cons (g_nm (R := rI)) (gq_one (g_nm (R := rI))))) (fun x σ' S hp => by obtain ⟨_, ⟨_, rfl, _⟩, ⟨_, rfl, _⟩⟩ := hp; rfl) (fun x279 σ' S1 H1 g280 hp => by have w281 := w275.go g280; obtain ⟨_, ⟨_, rfl, rfl⟩, ⟨_, rfl, rfl⟩⟩ := hp; have rknown10 := Mo.mo g280.s rknown10; have rparting136 := Mo.mo g280.s rparting136; have rtold156 := Mo.mo g280.s rtold156; have rnamed166 := Mo.mo g280.s rnamed166; have rcounts241 := Mo.mo g280.s rcounts241; exact (e_var (R := rI) rfl rfl)) (pm_cons pm_nm pm_nm)))) (Ev.eta (e_call (E := E0) (fm := fm_rests_number) (R := rI) (a_one (e_var (R := rI) rfl rfl)))))) hm278 ?_ ?_
              · intro S282 H283 s284 w285 p286 g287 hm288
                have rknown10 := Mo.mo g287.s rknown10
                have rparting136 := Mo.mo g287.s rparting136
                have rtold156 := Mo.mo g287.s rtold156
                have rnamed166 := Mo.mo g287.s rnamed166
                have rcounts241 := Mo.mo g287.s rcounts241
                have eb87 := eb87.tr g287.s
                have ex95 := ex95.tr g287.s
                refine q_ret w285 p286 e_cB hm288 ?_
                intro r296 v297 S289 H290 s291 w292 p293 g295 rr298 hm294
                cases run_of_pure hm294
                exact rt94 _ _ _ rfl ⟨S289, w292.g, p293, rr298⟩
              · intro S299 H300 s301 w302 p303 g304 hm305
                have rknown10 := Mo.mo g304.s rknown10
                have rparting136 := Mo.mo g304.s rparting136
                have rtold156 := Mo.mo g304.s rtold156
                have rnamed166 := Mo.mo g304.s rnamed166
                have rcounts241 := Mo.mo g304.s rcounts241
                have eb87 := eb87.tr g304.s
                have ex95 := ex95.tr g304.s
                refine nx_done ?_
                refine q_if w302 p303 (t_Test (e_ne (c_max (EvL.rd (l_lc1T (vs := [14, 19]) (f := (fun x306 => x306.1)) (R' := rI) (i_T (e_var rfl rcounts241)) ownOk0 (g_tp (gq_cons (g_nm (R := rI)) (gq_one (g_nm (R := rI))))) (fun x σ' S hp => by obtain ⟨_, ⟨_, rfl, _⟩, ⟨_, rfl, _⟩⟩ := hp; rfl) (fun x306 σ' S1 H1 g307 hp => by have w308 := w302.go g307; obtain ⟨_, ⟨_, rfl, rfl⟩, ⟨_, rfl, rfl⟩⟩ := hp; have rknown10 := Mo.mo g307.s rknown10; have rparting136 := Mo.mo g307.s rparting136; have rtold156 := Mo.mo g307.s rtold156; have rnamed166 := Mo.mo g307.s rnamed166; have rcounts241 := Mo.mo g307.s rcounts241; exact (e_var (R := rI) rfl rfl)) (pm_cons pm_nm pm_nm)))) (Ev.eta (e_call (E := E0) (fm := fm_greatest_order) (R := rI) (a_one (e_var (R := rI) rfl rfl)))))) hm305 ?_ ?_
                · intro S309 H310 s311 w312 p313 g314 hm315
                  have rknown10 := Mo.mo g314.s rknown10
                  have rparting136 := Mo.mo g314.s rparting136
                  have rtold156 := Mo.mo g314.s rtold156
                  have rnamed166 := Mo.mo g314.s rnamed166
                  have rcounts241 := Mo.mo g314.s rcounts241
                  have eb87 := eb87.tr g314.s
                  have ex95 := ex95.tr g314.s
                  refine q_ret w312 p313 e_cB hm315 ?_
                  intro r323 v324 S316 H317 s318 w319 p320 g322 rr325 hm321
                  cases run_of_pure hm321
                  exact rt94 _ _ _ rfl ⟨S316, w319.g, p320, rr325⟩
                · intro S326 H327 s328 w329 p330 g331 hm332
                  have rknown10 := Mo.mo g331.s rknown10
                  have rparting136 := Mo.mo g331.s rparting136
                  have rtold156 := Mo.mo g331.s rtold156
                  have rnamed166 := Mo.mo g331.s rnamed166
                  have rcounts241 := Mo.mo g331.s rcounts241
                  have eb87 := eb87.tr g331.s
                  have ex95 := ex95.tr g331.s
                  refine nx_done ?_
                  refine q_set (fun v => [some v_script, some (.ref i.a), some vknown9, some (.int x13), some (.int n107), some (.int base117), some vparting135, some (.int rest137), some vtold155, some vnamed165, some vcounts240, some (.int passes245), some v, xdue79, some (.int order198), xstrong81, xleast82, xone83, xother84, none, none, none, none]) (fun _ => rfl) w329 p330 (e_eqQ (q_T (qs_all (q_T (qs_cons q_I (qs_one q_I))))) (by decide) (Ev.Q (e_var rfl rparting136) (d_T (ds_all (d_T (ds_cons d_I (ds_one d_I)))))) (Ev.Q (e_tupL (K := K) (a_consL (e_tup (K := K) (a_cons (e_var (R := rI) rfl rfl) (a_one e_cI)) (arN_cons arN_one) (by decide)) (a_nilL (R := (rT K (aCons rI (aOne rI))))))) (d_T (ds_all (d_T (ds_cons d_I (ds_one d_I))))))) hm332 ?_
                  intro prime333 vprime341 S334 H335 s336 w337 p338 g340 rprime342 hm339
                  cases (show vprime341 = .bl prime333 from rprime342)
                  have rknown10 := Mo.mo g340.s rknown10
                  have rparting136 := Mo.mo g340.s rparting136
                  have rtold156 := Mo.mo g340.s rtold156
                  have rnamed166 := Mo.mo g340.s rnamed166
                  have rcounts241 := Mo.mo g340.s rcounts241
                  have eb87 := eb87.tr g340.s
                  have ex95 := ex95.tr g340.s
                  refine q_set (fun v => [some v_script, some (.ref i.a), some vknown9, some (.int x13), some (.int n107), some (.int base117), some vparting135, some (.int rest137), some vtold155, some vnamed165, some vcounts240, some (.int passes245), some (.bl prime333), some v, some (.int order198), xstrong81, xleast82, xone83, xother84, none, none, none, none]) (fun _ => rfl) w337 p338 (e_and (e_not (e_var (R := rB) rfl rfl)) (e_and (e_eq (e_mod (e_sub (e_var (R := rI) rfl rfl) e_cI) (Ev.eta (e_call (E := E0) (fm := fm_greatest_order) (R := rI) (a_one (e_var (R := rI) rfl rfl))))) e_cI) (e_eqQ (q_L (qs_all q_I)) (by decide) (EvR.Q (EvL.rd (l_lcT (vs := [20, 21]) (t := (fun x343 => (decide ((1 : Int) < x343.2)))) (f := (fun x343 => x343.2)) (R' := rI) (i_T (e_var rfl rparting136)) ownOk0 (g_tp (gq_cons (g_nm (R := rI)) (gq_one (g_nm (R := rI))))) (fun x σ' S hp => by obtain ⟨_, ⟨_, rfl, _⟩, ⟨_, rfl, _⟩⟩ := hp; rfl) (fun x343 σ' S1 H1 g344 hp => by have w345 := w337.go g344; obtain ⟨_, ⟨_, rfl, rfl⟩, ⟨_, rfl, rfl⟩⟩ := hp; have rknown10 := Mo.mo g344.s rknown10; have rparting136 := Mo.mo g344.s rparting136; have rtold156 := Mo.mo g344.s rtold156; have rnamed166 := Mo.mo g344.s rnamed166; have rcounts241 := Mo.mo g344.s rcounts241; exact (t_Test (e_gt (e_var (R := rI) rfl rfl) e_cI))) (fun x343 σ' S1 H1 g344 hp => by have w345 := w337.go g344; obtain ⟨_, ⟨_, rfl, rfl⟩, ⟨_, rfl, rfl⟩⟩ := hp; have rknown10 := Mo.mo g344.s rknown10; have rparting136 := Mo.mo g344.s rparting136; have rtold156 := Mo.mo g344.s rtold156; have rnamed166 := Mo.mo g344.s rnamed166; have rcounts241 := Mo.mo g344.s rcounts241; exact (e_var (R := rI) rfl rfl)) (pm_cons pm_nm pm_nm))) (ds_all d_I)) (EvR.Q (EvL.rd (l_lstL (a_nilL (R := rI)))) (ds_all d_I))))) hm339 ?_
                  intro due346 vdue354 S347 H348 s349 w350 p351 g353 rdue355 hm352
                  cases (show vdue354 = .bl due346 from rdue355)
                  have rknown10 := Mo.mo g353.s rknown10
                  have rparting136 := Mo.mo g353.s rparting136
                  have rtold156 := Mo.mo g353.s rtold156
                  have rnamed166 := Mo.mo g353.s rnamed166
                  have rcounts241 := Mo.mo g353.s rcounts241
                  have eb87 := eb87.tr g353.s
                  have ex95 := ex95.tr g353.s
                  refine q_if w350 p351 (t_Test (e_neW (c_repr (EvL.frz (l_lstL (a_consL (Ev.eta (e_call (E := E0) (fm := fm_is_as_prime) (R := rB) (a_one (e_var (R := rI) rfl rfl)))) (a_consL (e_callK (E := E0) (n := 0) (m' := 1) (ix := [0]) (fm := fm_is_as_prime) (A := (aOne rI)) (A1 := aNil) (A2 := (aOne rI)) (R := rB) (fun a b => b) a_nil (a_one (e_var (R := rI) rfl rfl)) (fun a b vs zs S h1 h2 => by obtain rfl := h1; obtain ⟨_, rfl, y0⟩ := h2; exact ⟨rfl, rfl, ⟨_, rfl, y0⟩⟩)) (a_consL (Ev.eta (e_call (E := E0) (fm := fm_is_prime_number) (R := rB) (a_one (e_var (R := rI) rfl rfl)))) (a_nilL (R := rB))))))) (d_L (ds_all d_B))) (c_repr (EvL.frz (l_lstL (a_consL (e_var (R := rB) rfl rfl) (a_consL (e_var (R := rB) rfl rfl) (a_consL (e_var (R := rB) rfl rfl) (a_nilL (R := rB))))))) (d_L (ds_all d_B))))) hm352 ?_ ?_
                  · intro S356 H357 s358 w359 p360 g361 hm362
                    have rknown10 := Mo.mo g361.s rknown10
                    have rparting136 := Mo.mo g361.s rparting136
                    have rtold156 := Mo.mo g361.s rtold156
                    have rnamed166 := Mo.mo g361.s rnamed166
                    have rcounts241 := Mo.mo g361.s rcounts241
                    have eb87 := eb87.tr g361.s
                    have ex95 := ex95.tr g361.s
                    refine q_ret w359 p360 e_cB hm362 ?_
                    intro r370 v371 S363 H364 s365 w366 p367 g369 rr372 hm368
                    cases run_of_pure hm368
                    exact rt94 _ _ _ rfl ⟨S363, w366.g, p367, rr372⟩
                  · intro S373 H374 s375 w376 p377 g378 hm379
                    have rknown10 := Mo.mo g378.s rknown10
                    have rparting136 := Mo.mo g378.s rparting136
                    have rtold156 := Mo.mo g378.s rtold156
                    have rnamed166 := Mo.mo g378.s rnamed166
                    have rcounts241 := Mo.mo g378.s rcounts241
                    have eb87 := eb87.tr g378.s
                    have ex95 := ex95.tr g378.s
                    refine nx_done ?_
                    refine q_if w376 p377 (t_Test (e_ne (e_var (R := rB) rfl rfl) (e_and (e_not (e_var (R := rB) rfl rfl)) (e_eq (e_var (R := rI) rfl rfl) (Ev.eta (e_call (E := E0) (fm := fm_rests_number) (R := rI) (a_one (e_var (R := rI) rfl rfl)))))))) hm379 ?_ ?_
                    · intro S380 H381 s382 w383 p384 g385 hm386
                      have rknown10 := Mo.mo g385.s rknown10
                      have rparting136 := Mo.mo g385.s rparting136
                      have rtold156 := Mo.mo g385.s rtold156
                      have rnamed166 := Mo.mo g385.s rnamed166
                      have rcounts241 := Mo.mo g385.s rcounts241
                      have eb87 := eb87.tr g385.s
                      have ex95 := ex95.tr g385.s
                      refine q_ret w383 p384 e_cB hm386 ?_
                      intro r394 v395 S387 H388 s389 w390 p391 g393 rr396 hm392
                      cases run_of_pure hm392
                      exact rt94 _ _ _ rfl ⟨S387, w390.g, p391, rr396⟩
                    · intro S397 H398 s399 w400 p401 g402 hm403
                      have rknown10 := Mo.mo g402.s rknown10
                      have rparting136 := Mo.mo g402.s rparting136
                      have rtold156 := Mo.mo g402.s rtold156
                      have rnamed166 := Mo.mo g402.s rnamed166
                      have rcounts241 := Mo.mo g402.s rcounts241
                      have eb87 := eb87.tr g402.s
                      have ex95 := ex95.tr g402.s
                      refine nx_done ?_
                      refine q_if w400 p401 (t_Test (e_eq (e_mod (e_var (R := rI) rfl rfl) e_cI) e_cI)) hm403 ?_ ?_
                      · intro S404 H405 s406 w407 p408 g409 hm410
                        have rknown10 := Mo.mo g409.s rknown10
                        have rparting136 := Mo.mo g409.s rparting136
                        have rtold156 := Mo.mo g409.s rtold156
                        have rnamed166 := Mo.mo g409.s rnamed166
                        have rcounts241 := Mo.mo g409.s rcounts241
                        have eb87 := eb87.tr g409.s
                        have ex95 := ex95.tr g409.s
                        refine q_set (fun v => [some v_script, some (.ref i.a), some vknown9, some (.int x13), some (.int n107), some (.int base117), some vparting135, some (.int rest137), some vtold155, some vnamed165, some vcounts240, some (.int passes245), some (.bl prime333), some (.bl due346), some (.int order198), some v, xleast82, xone83, xother84, none, none, none, none]) (fun _ => rfl) w407 p408 (Ev.eta (e_call (E := E0) (fm := fm__law_strong) (R := rB) (a_cons (e_var (R := rI) rfl rfl) (a_one (e_var (R := rI) rfl rfl))))) hm410 ?_
                        intro strong411 vstrong419 S412 H413 s414 w415 p416 g418 rstrong420 hm417
                        cases (show vstrong419 = .bl strong411 from rstrong420)
                        have rknown10 := Mo.mo g418.s rknown10
                        have rparting136 := Mo.mo g418.s rparting136
                        have rtold156 := Mo.mo g418.s rtold156
                        have rnamed166 := Mo.mo g418.s rnamed166
                        have rcounts241 := Mo.mo g418.s rcounts241
                        have eb87 := eb87.tr g418.s
                        have ex95 := ex95.tr g418.s
                        refine q_if w415 p416 (t_Test (e_neW (c_repr (EvL.frz (l_lstL (a_consL (Ev.eta (e_call (E := E0) (fm := fm_does_pass_strongly) (R := rB) (a_cons (e_var (R := rI) rfl rfl) (a_one (e_var (R := rI) rfl rfl))))) (a_consL (e_callK (E := E0) (n := 0) (m' := 2) (ix := [1, 0]) (fm := fm_does_pass_strongly) (A := (aCons rI (aOne rI))) (A1 := aNil) (A2 := (aCons rI (aOne rI))) (R := rB) (fun a b => (b.2, b.1)) a_nil (a_cons (e_var (R := rI) rfl rfl) (a_one (e_var (R := rI) rfl rfl))) (fun a b vs zs S h1 h2 => by obtain rfl := h1; obtain ⟨_, _, rfl, y0, ⟨_, rfl, y1⟩⟩ := h2; exact ⟨rfl, rfl, ⟨_, _, rfl, y1, ⟨_, rfl, y0⟩⟩⟩)) (a_nilL (R := rB)))))) (d_L (ds_all d_B))) (c_repr (EvL.frz (l_lstL (a_consL (e_var (R := rB) rfl rfl) (a_consL (e_var (R := rB) rfl rfl) (a_nilL (R := rB)))))) (d_L (ds_all d_B))))) hm417 ?_ ?_
                        · intro S421 H422 s423 w424 p425 g426 hm427
                          have rknown10 := Mo.mo g426.s rknown10
                          have rparting136 := Mo.mo g426.s rparting136
                          have rtold156 := Mo.mo g426.s rtold156
                          have rnamed166 := Mo.mo g426.s rnamed166
                          have rcounts241 := Mo.mo g426.s rcounts241
                          have eb87 := eb87.tr g426.s
                          have ex95 := ex95.tr g426.s
                          refine q_ret w424 p425 e_cB hm427 ?_
                          intro r435 v436 S428 H429 s430 w431 p432 g434 rr437 hm433
                          cases run_of_pure hm433
                          exact rt94 _ _ _ rfl ⟨S428, w431.g, p432, rr437⟩
                        · intro S438 H439 s440 w441 p442 g443 hm444
                          have rknown10 := Mo.mo g443.s rknown10
                          have rparting136 := Mo.mo g443.s rparting136
                          have rtold156 := Mo.mo g443.s rtold156
                          have rnamed166 := Mo.mo g443.s rnamed166
                          have rcounts241 := Mo.mo g443.s rcounts241
                          have eb87 := eb87.tr g443.s
                          have ex95 := ex95.tr g443.s
                          refine nx_done ?_
                          refine q_if w441 p442 (t_and (t_Test (e_lt (e_var (R := rI) rfl rfl) e_cI)) (t_Test (e_ne (Ev.eta (e_call (E := E0) (fm := fm_strong_number) (R := rI) (a_one (e_var (R := rI) rfl rfl)))) (c_lenL (EvL.rd (l_lc (γ := Int) (vs := [22]) (mt := fun x445 k => Mir.lft (m__law_strong n107 x445) >>= fun r449 => k r449) (me := fun x445 k => k x445) (R' := rI) (i_R1 (e_var (R := rI) rfl rfl)) ownOk0 (g_nm (R := rI)) (fun x σ' S hp => by obtain ⟨_, rfl, _⟩ := hp; rfl) (fun x445 σ' S1 H1 g446 hp => by have w447 := w441.go g446; obtain ⟨_, rfl, rfl⟩ := hp; have rknown10 := Mo.mo g446.s rknown10; have rparting136 := Mo.mo g446.s rparting136; have rtold156 := Mo.mo g446.s rtold156; have rnamed166 := Mo.mo g446.s rnamed166; have rcounts241 := Mo.mo g446.s rcounts241; exact (t_B (Ev.eta (e_call (E := E0) (fm := fm__law_strong) (R := rB) (a_cons (e_var (R := rI) rfl rfl) (a_one (e_var (R := rI) rfl rfl))))))) (fun x445 σ' S1 H1 g446 hp => by have w447 := w441.go g446; obtain ⟨_, rfl, rfl⟩ := hp; have rknown10 := Mo.mo g446.s rknown10; have rparting136 := Mo.mo g446.s rparting136; have rtold156 := Mo.mo g446.s rtold156; have rnamed166 := Mo.mo g446.s rnamed166; have rcounts241 := Mo.mo g446.s rcounts241; exact (e_var (R := rI) rfl rfl)) pm_nm)))))) hm444 ?_ ?_
                          · intro S450 H451 s452 w453 p454 g455 hm456
                            have rknown10 := Mo.mo g455.s rknown10
                            have rparting136 := Mo.mo g455.s rparting136
                            have rtold156 := Mo.mo g455.s rtold156
                            have rnamed166 := Mo.mo g455.s rnamed166
                            have rcounts241 := Mo.mo g455.s rcounts241
                            have eb87 := eb87.tr g455.s
                            have ex95 := ex95.tr g455.s
                            refine q_ret w453 p454 e_cB hm456 ?_
                            intro r464 v465 S457 H458 s459 w460 p461 g463 rr466 hm462
                            cases run_of_pure hm462
                            exact rt94 _ _ _ rfl ⟨S457, w460.g, p461, rr466⟩
                          · intro S467 H468 s469 w470 p471 g472 hm473
                            have rknown10 := Mo.mo g472.s rknown10
                            have rparting136 := Mo.mo g472.s rparting136
                            have rtold156 := Mo.mo g472.s rtold156
                            have rnamed166 := Mo.mo g472.s rnamed166
                            have rcounts241 := Mo.mo g472.s rcounts241
                            have eb87 := eb87.tr g472.s
                            have ex95 := ex95.tr g472.s
                            refine nx_done ?_
                            refine q_if w470 p471 (t_or (t_andT (t_B (e_var (R := rB) rfl rfl)) (t_Test (e_ne (e_var (R := rI) rfl rfl) e_cI))) (t_Test (e_neW (c_repr (Ev.eta (e_call (E := E0) (fm := fm_is_prime_told) (R := rB) (a_one (e_var (R := rI) rfl rfl)))) d_B) (c_repr (e_var (R := rB) rfl rfl) d_B)))) hm473 ?_ ?_
                            · intro S474 H475 s476 w477 p478 g479 hm480
                              have rknown10 := Mo.mo g479.s rknown10
                              have rparting136 := Mo.mo g479.s rparting136
                              have rtold156 := Mo.mo g479.s rtold156
                              have rnamed166 := Mo.mo g479.s rnamed166
                              have rcounts241 := Mo.mo g479.s rcounts241
                              have eb87 := eb87.tr g479.s
                              have ex95 := ex95.tr g479.s
                              refine q_ret w477 p478 e_cB hm480 ?_
                              intro r488 v489 S481 H482 s483 w484 p485 g487 rr490 hm486
                              cases run_of_pure hm486
                              exact rt94 _ _ _ rfl ⟨S481, w484.g, p485, rr490⟩
                            · intro S491 H492 s493 w494 p495 g496 hm497
                              have rknown10 := Mo.mo g496.s rknown10
                              have rparting136 := Mo.mo g496.s rparting136
                              have rtold156 := Mo.mo g496.s rtold156
                              have rnamed166 := Mo.mo g496.s rnamed166
                              have rcounts241 := Mo.mo g496.s rcounts241
                              have eb87 := eb87.tr g496.s
                              have ex95 := ex95.tr g496.s
                              refine nx_done ?_
                              refine q_if w494 p495 (t_andT (t_Test (e_eq (e_var (R := rI) rfl rfl) e_cI)) (t_not (t_B (e_var (R := rB) rfl rfl)))) hm497 ?_ ?_
                              · intro S498 H499 s500 w501 p502 g503 hm504
                                have rknown10 := Mo.mo g503.s rknown10
                                have rparting136 := Mo.mo g503.s rparting136
                                have rtold156 := Mo.mo g503.s rtold156
                                have rnamed166 := Mo.mo g503.s rnamed166
                                have rcounts241 := Mo.mo g503.s rcounts241
                                have eb87 := eb87.tr g503.s
                                have ex95 := ex95.tr g503.s
                                refine q_unp w501 p502 (e_two (Ev.eta (e_call (E := E0) (fm := fm_parted_by_base) (R := (rT K (aAll rI))) (a_cons (e_var (R := rI) rfl rfl) (a_one (e_var (R := rI) rfl rfl)))))) (g_tp (gq_cons (g_nm (R := rI)) (gq_one (g_nm (R := rI))))) hm504 ?_
                                intro t505 σ513 S506 H507 s508 w509 p510 g512 hp hm511
                                have rknown10 := Mo.mo g512.s rknown10
                                have rparting136 := Mo.mo g512.s rparting136
                                have rtold156 := Mo.mo g512.s rtold156
                                have rnamed166 := Mo.mo g512.s rnamed166
                                have rcounts241 := Mo.mo g512.s rcounts241
                                have eb87 := eb87.tr g512.s
                                have ex95 := ex95.tr g512.s
                                obtain ⟨_, ⟨_, rfl, rfl⟩, ⟨_, rfl, rfl⟩⟩ := hp
                                refine q_if w509 p510 (t_orT (t_Test (e_ne (e_mul (e_var (R := rI) rfl rfl) (e_var (R := rI) rfl rfl)) (e_var (R := rI) rfl rfl))) (t_orT (t_Test (e_lt (e_var (R := rI) rfl rfl) e_cI)) (t_Test (e_gt (e_var (R := rI) rfl rfl) (e_var (R := rI) rfl rfl))))) hm511 ?_ ?_
                                · intro S514 H515 s516 w517 p518 g519 hm520
                                  have rknown10 := Mo.mo g519.s rknown10
                                  have rparting136 := Mo.mo g519.s rparting136
                                  have rtold156 := Mo.mo g519.s rtold156
                                  have rnamed166 := Mo.mo g519.s rnamed166
                                  have rcounts241 := Mo.mo g519.s rcounts241
                                  have eb87 := eb87.tr g519.s
                                  have ex95 := ex95.tr g519.s
                                  refine q_ret w517 p518 e_cB hm520 ?_
                                  intro r528 v529 S521 H522 s523 w524 p525 g527 rr530 hm526
                                  cases run_of_pure hm526
                                  exact rt94 _ _ _ rfl ⟨S521, w524.g, p525, rr530⟩
                                · intro S531 H532 s533 w534 p535 g536 hm537
                                  have rknown10 := Mo.mo g536.s rknown10
                                  have rparting136 := Mo.mo g536.s rparting136
                                  have rtold156 := Mo.mo g536.s rtold156
                                  have rnamed166 := Mo.mo g536.s rnamed166
                                  have rcounts241 := Mo.mo g536.s rcounts241
                                  have eb87 := eb87.tr g536.s
                                  have ex95 := ex95.tr g536.s
                                  refine nx_done ?_
                                  refine nx_done ?_
                                  refine q_if w534 p535 (t_not (t_B (e_var (R := rB) rfl rfl))) hm537 ?_ ?_
                                  · intro S538 H539 s540 w541 p542 g543 hm544
                                    have rknown10 := Mo.mo g543.s rknown10
                                    have rparting136 := Mo.mo g543.s rparting136
                                    have rtold156 := Mo.mo g543.s rtold156
                                    have rnamed166 := Mo.mo g543.s rnamed166
                                    have rcounts241 := Mo.mo g543.s rcounts241
                                    have eb87 := eb87.tr g543.s
                                    have ex95 := ex95.tr g543.s
                                    refine q_set (fun v => [some v_script, some (.ref i.a), some vknown9, some (.int x13), some (.int n107), some (.int base117), some vparting135, some (.int rest137), some vtold155, some vnamed165, some vcounts240, some (.int passes245), some (.bl prime333), some (.bl due346), some (.int order198), some (.bl strong411), some v, some (.int t505.1), some (.int t505.2), none, none, none, none]) (fun _ => rfl) w541 p542 (Ev.eta (e_call (E := E0) (fm := fm_least_showing) (R := rI) (a_one (e_var (R := rI) rfl rfl)))) hm544 ?_
                                    intro least545 vleast553 S546 H547 s548 w549 p550 g552 rleast554 hm551
                                    cases (show vleast553 = .int least545 from rleast554)
                                    have rknown10 := Mo.mo g552.s rknown10
                                    have rparting136 := Mo.mo g552.s rparting136
                                    have rtold156 := Mo.mo g552.s rtold156
                                    have rnamed166 := Mo.mo g552.s rnamed166
                                    have rcounts241 := Mo.mo g552.s rcounts241
                                    have eb87 := eb87.tr g552.s
                                    have ex95 := ex95.tr g552.s
                                    refine q_if w549 p550 (t_or (t_B (Ev.eta (e_call (E := E0) (fm := fm__law_strong) (R := rB) (a_cons (e_var (R := rI) rfl rfl) (a_one (e_var (R := rI) rfl rfl)))))) (t_Test (e_neQ (q_L (qs_all q_I)) (by decide) (EvR.Q (EvL.rd (l_lc (γ := Int) (vs := [22]) (mt := fun x555 k => Mir.lft (m__law_strong n107 x555) >>= fun r559 => k (!r559)) (me := fun x555 k => k x555) (R' := rI) (i_R2 e_cI (e_var (R := rI) rfl rfl)) ownOk0 (g_nm (R := rI)) (fun x σ' S hp => by obtain ⟨_, rfl, _⟩ := hp; rfl) (fun x555 σ' S1 H1 g556 hp => by have w557 := w549.go g556; obtain ⟨_, rfl, rfl⟩ := hp; have rknown10 := Mo.mo g556.s rknown10; have rparting136 := Mo.mo g556.s rparting136; have rtold156 := Mo.mo g556.s rtold156; have rnamed166 := Mo.mo g556.s rnamed166; have rcounts241 := Mo.mo g556.s rcounts241; exact (t_not (t_B (Ev.eta (e_call (E := E0) (fm := fm__law_strong) (R := rB) (a_cons (e_var (R := rI) rfl rfl) (a_one (e_var (R := rI) rfl rfl)))))))) (fun x555 σ' S1 H1 g556 hp => by have w557 := w549.go g556; obtain ⟨_, rfl, rfl⟩ := hp; have rknown10 := Mo.mo g556.s rknown10; have rparting136 := Mo.mo g556.s rparting136; have rtold156 := Mo.mo g556.s rtold156; have rnamed166 := Mo.mo g556.s rnamed166; have rcounts241 := Mo.mo g556.s rcounts241; exact (e_var (R := rI) rfl rfl)) pm_nm)) (ds_all d_I)) (EvR.Q (EvL.rd (l_lstL (a_nilL (R := rI)))) (ds_all d_I))))) hm551 ?_ ?_
                                    · intro S560 H561 s562 w563 p564 g565 hm566
                                      have rknown10 := Mo.mo g565.s rknown10
                                      have rparting136 := Mo.mo g565.s rparting136
                                      have rtold156 := Mo.mo g565.s rtold156
                                      have rnamed166 := Mo.mo g565.s rnamed166
                                      have rcounts241 := Mo.mo g565.s rcounts241
                                      have eb87 := eb87.tr g565.s
                                      have ex95 := ex95.tr g565.s
                                      refine q_ret w563 p564 e_cB hm566 ?_
                                      intro r574 v575 S567 H568 s569 w570 p571 g573 rr576 hm572
                                      cases run_of_pure hm572
                                      exact rt94 _ _ _ rfl ⟨S567, w570.g, p571, rr576⟩
                                    · intro S577 H578 s579 w580 p581 g582 hm583
                                      have rknown10 := Mo.mo g582.s rknown10
                                      have rparting136 := Mo.mo g582.s rparting136
                                      have rtold156 := Mo.mo g582.s rtold156
                                      have rnamed166 := Mo.mo g582.s rnamed166
                                      have rcounts241 := Mo.mo g582.s rcounts241
                                      have eb87 := eb87.tr g582.s
                                      have ex95 := ex95.tr g582.s
                                      refine nx_done ?_
                                      refine nx_done ?_
                                      refine nx_done ?_
                                      cases run_of_pure hm583
                                      exact (nx92 _ _ _ _ rfl ⟨ex95, ⟨_, _, _, _, _, _, _, _, _, _, _, _, _, _, _, _, rfl, w580, p581, eb87⟩⟩).1
                                  · intro S588 H589 s590 w591 p592 g593 hm594
                                    have rknown10 := Mo.mo g593.s rknown10
                                    have rparting136 := Mo.mo g593.s rparting136
                                    have rtold156 := Mo.mo g593.s rtold156
                                    have rnamed166 := Mo.mo g593.s rnamed166
                                    have rcounts241 := Mo.mo g593.s rcounts241
                                    have eb87 := eb87.tr g593.s
                                    have ex95 := ex95.tr g593.s
                                    refine nx_done ?_
                                    refine nx_done ?_
                                    cases run_of_pure hm594
                                    exact (nx92 _ _ _ _ rfl ⟨ex95, ⟨_, _, _, _, _, _, _, _, _, _, _, _, _, _, _, _, rfl, w591, p592, eb87⟩⟩).1
                              · intro S597 H598 s599 w600 p601 g602 hm603
                                have rknown10 := Mo.mo g602.s rknown10
                                have rparting136 := Mo.mo g602.s rparting136
                                have rtold156 := Mo.mo g602.s rtold156
                                have rnamed166 := Mo.mo g602.s rnamed166
                                have rcounts241 := Mo.mo g602.s rcounts241
                                have eb87 := eb87.tr g602.s
                                have ex95 := ex95.tr g602.s
                                refine nx_done ?_
                                refine q_if w600 p601 (t_not (t_B (e_var (R := rB) rfl rfl))) hm603 ?_ ?_
                                · intro S604 H605 s606 w607 p608 g609 hm610
                                  have rknown10 := Mo.mo g609.s rknown10
                                  have rparting136 := Mo.mo g609.s rparting136
                                  have rtold156 := Mo.mo g609.s rtold156
                                  have rnamed166 := Mo.mo g609.s rnamed166
                                  have rcounts241 := Mo.mo g609.s rcounts241
                                  have eb87 := eb87.tr g609.s
                                  have ex95 := ex95.tr g609.s
                                  refine q_set (fun v => [some v_script, some (.ref i.a), some vknown9, some (.int x13), some (.int n107), some (.int base117), some vparting135, some (.int rest137), some vtold155, some vnamed165, some vcounts240, some (.int passes245), some (.bl prime333), some (.bl due346), some (.int order198), some (.bl strong411), some v, xone83, xother84, none, none, none, none]) (fun _ => rfl) w607 p608 (Ev.eta (e_call (E := E0) (fm := fm_least_showing) (R := rI) (a_one (e_var (R := rI) rfl rfl)))) hm610 ?_
                                  intro least611 vleast619 S612 H613 s614 w615 p616 g618 rleast620 hm617
                                  cases (show vleast619 = .int least611 from rleast620)
                                  have rknown10 := Mo.mo g618.s rknown10
                                  have rparting136 := Mo.mo g618.s rparting136
                                  have rtold156 := Mo.mo g618.s rtold156
                                  have rnamed166 := Mo.mo g618.s rnamed166
                                  have rcounts241 := Mo.mo g618.s rcounts241
                                  have eb87 := eb87.tr g618.s
                                  have ex95 := ex95.tr g618.s
                                  refine q_if w615 p616 (t_or (t_B (Ev.eta (e_call (E := E0) (fm := fm__law_strong) (R := rB) (a_cons (e_var (R := rI) rfl rfl) (a_one (e_var (R := rI) rfl rfl)))))) (t_Test (e_neQ (q_L (qs_all q_I)) (by decide) (EvR.Q (EvL.rd (l_lc (γ := Int) (vs := [22]) (mt := fun x621 k => Mir.lft (m__law_strong n107 x621) >>= fun r625 => k (!r625)) (me := fun x621 k => k x621) (R' := rI) (i_R2 e_cI (e_var (R := rI) rfl rfl)) ownOk0 (g_nm (R := rI)) (fun x σ' S hp => by obtain ⟨_, rfl, _⟩ := hp; rfl) (fun x621 σ' S1 H1 g622 hp => by have w623 := w615.go g622; obtain ⟨_, rfl, rfl⟩ := hp; have rknown10 := Mo.mo g622.s rknown10; have rparting136 := Mo.mo g622.s rparting136; have rtold156 := Mo.mo g622.s rtold156; have rnamed166 := Mo.mo g622.s rnamed166; have rcounts241 := Mo.mo g622.s rcounts241; exact (t_not (t_B (Ev.eta (e_call (E := E0) (fm := fm__law_strong) (R := rB) (a_cons (e_var (R := rI) rfl rfl) (a_one (e_var (R := rI) rfl rfl)))))))) (fun x621 σ' S1 H1 g622 hp => by have w623 := w615.go g622; obtain ⟨_, rfl, rfl⟩ := hp; have rknown10 := Mo.mo g622.s rknown10; have rparting136 := Mo.mo g622.s rparting136; have rtold156 := Mo.mo g622.s rtold156; have rnamed166 := Mo.mo g622.s rnamed166; have rcounts241 := Mo.mo g622.s rcounts241; exact (e_var (R := rI) rfl rfl)) pm_nm)) (ds_all d_I)) (EvR.Q (EvL.rd (l_lstL (a_nilL (R := rI)))) (ds_all d_I))))) hm617 ?_ ?_
                                  · intro S626 H627 s628 w629 p630 g631 hm632
                                    have rknown10 := Mo.mo g631.s rknown10
                                    have rparting136 := Mo.mo g631.s rparting136
                                    have rtold156 := Mo.mo g631.s rtold156
                                    have rnamed166 := Mo.mo g631.s rnamed166
                                    have rcounts241 := Mo.mo g631.s rcounts241
                                    have eb87 := eb87.tr g631.s
                                    have ex95 := ex95.tr g631.s
                                    refine q_ret w629 p630 e_cB hm632 ?_
                                    intro r640 v641 S633 H634 s635 w636 p637 g639 rr642 hm638
                                    cases run_of_pure hm638
                                    exact rt94 _ _ _ rfl ⟨S633, w636.g, p637, rr642⟩
                                  · intro S643 H644 s645 w646 p647 g648 hm649
                                    have rknown10 := Mo.mo g648.s rknown10
                                    have rparting136 := Mo.mo g648.s rparting136
                                    have rtold156 := Mo.mo g648.s rtold156
                                    have rnamed166 := Mo.mo g648.s rnamed166
                                    have rcounts241 := Mo.mo g648.s rcounts241
                                    have eb87 := eb87.tr g648.s
                                    have ex95 := ex95.tr g648.s
                                    refine nx_done ?_
                                    refine nx_done ?_
                                    refine nx_done ?_
                                    cases run_of_pure hm649
                                    exact (nx92 _ _ _ _ rfl ⟨ex95, ⟨_, _, _, _, _, _, _, _, _, _, _, _, _, _, _, _, rfl, w646, p647, eb87⟩⟩).1
                                · intro S654 H655 s656 w657 p658 g659 hm660
                                  have rknown10 := Mo.mo g659.s rknown10
                                  have rparting136 := Mo.mo g659.s rparting136
                                  have rtold156 := Mo.mo g659.s rtold156
                                  have rnamed166 := Mo.mo g659.s rnamed166
                                  have rcounts241 := Mo.mo g659.s rcounts241
                                  have eb87 := eb87.tr g659.s
                                  have ex95 := ex95.tr g659.s
                                  refine nx_done ?_
                                  refine nx_done ?_
                                  cases run_of_pure hm660
                                  exact (nx92 _ _ _ _ rfl ⟨ex95, ⟨_, _, _, _, _, _, _, _, _, _, _, _, _, _, _, _, rfl, w657, p658, eb87⟩⟩).1
                      · intro S673 H674 s675 w676 p677 g678 hm679
                        have rknown10 := Mo.mo g678.s rknown10
                        have rparting136 := Mo.mo g678.s rparting136
                        have rtold156 := Mo.mo g678.s rtold156
                        have rnamed166 := Mo.mo g678.s rnamed166
                        have rcounts241 := Mo.mo g678.s rcounts241
                        have eb87 := eb87.tr g678.s
                        have ex95 := ex95.tr g678.s
                        refine nx_done ?_
                        cases run_of_pure hm679
                        exact (nx92 _ _ _ _ rfl ⟨ex95, ⟨_, _, _, _, _, _, _, _, _, _, _, _, _, _, _, _, rfl, w676, p677, eb87⟩⟩).1
        · intro S702 H703 s704 w705 p706 g707 hm708
          have rknown10 := Mo.mo g707.s rknown10
          have rparting136 := Mo.mo g707.s rparting136
          have rtold156 := Mo.mo g707.s rtold156
          have rnamed166 := Mo.mo g707.s rnamed166
          have eb87 := eb87.tr g707.s
          have ex95 := ex95.tr g707.s
          refine q_if w705 p706 (t_Test (e_eq (e_var (R := rI) rfl rfl) e_cI)) hm708 ?_ ?_
          · intro S709 H710 s711 w712 p713 g714 hm715
            have rknown10 := Mo.mo g714.s rknown10
            have rparting136 := Mo.mo g714.s rparting136
            have rtold156 := Mo.mo g714.s rtold156
            have rnamed166 := Mo.mo g714.s rnamed166
            have eb87 := eb87.tr g714.s
            have ex95 := ex95.tr g714.s
            refine q_ret w712 p713 e_cB hm715 ?_
            intro r723 v724 S716 H717 s718 w719 p720 g722 rr725 hm721
            cases run_of_pure hm721
            exact rt94 _ _ _ rfl ⟨S716, w719.g, p720, rr725⟩
          · intro S726 H727 s728 w729 p730 g731 hm732
            have rknown10 := Mo.mo g731.s rknown10
            have rparting136 := Mo.mo g731.s rparting136
            have rtold156 := Mo.mo g731.s rtold156
            have rnamed166 := Mo.mo g731.s rnamed166
            have eb87 := eb87.tr g731.s
            have ex95 := ex95.tr g731.s
            refine nx_done ?_
            refine nx_done ?_
            refine q_set (fun v => [some v_script, some (.ref i.a), some vknown9, some (.int x13), some (.int n107), some (.int base117), some vparting135, some (.int rest137), some vtold155, some vnamed165, some v, xpasses77, xprime78, xdue79, xorder80, xstrong81, xleast82, xone83, xother84, none, none, none, none]) (fun _ => rfl) w729 p730 (Ev.eta (e_call (E := E0) (fm := fm_order_counts) (R := (rT K (aAll (rT K (aCons rI (aOne rI)))))) (a_one (e_var (R := rI) rfl rfl)))) hm732 ?_
            intro counts733 vcounts741 S734 H735 s736 w737 p738 g740 rcounts742 hm739
            have rknown10 := Mo.mo g740.s rknown10
            have rparting136 := Mo.mo g740.s rparting136
            have rtold156 := Mo.mo g740.s rtold156
            have rnamed166 := Mo.mo g740.s rnamed166
            have eb87 := eb87.tr g740.s
            have ex95 := ex95.tr g740.s
            refine q_set (fun v => [some v_script, some (.ref i.a), some vknown9, some (.int x13), some (.int n107), some (.int base117), some vparting135, some (.int rest137), some vtold155, some vnamed165, some vcounts741, some v, xprime78, xdue79, xorder80, xstrong81, xleast82, xone83, xother84, none, none, none, none]) (fun _ => rfl) w737 p738 (c_sum (EvL.rd (l_lc (γ := Int) (vs := [14, 19]) (mt := fun x743 k => Mir.lft (grd (0 < x743.1)) >>= fun _ => k (decide (((n107 - (1 : Int)) % x743.1) = (0 : Int)))) (me := fun x743 k => k x743.2) (R' := rI) (i_T (e_var rfl rcounts742)) ownOk0 (g_tp (gq_cons (g_nm (R := rI)) (gq_one (g_nm (R := rI))))) (fun x σ' S hp => by obtain ⟨_, ⟨_, rfl, _⟩, ⟨_, rfl, _⟩⟩ := hp; rfl) (fun x743 σ' S1 H1 g744 hp => by have w745 := w737.go g744; obtain ⟨_, ⟨_, rfl, rfl⟩, ⟨_, rfl, rfl⟩⟩ := hp; have rknown10 := Mo.mo g744.s rknown10; have rparting136 := Mo.mo g744.s rparting136; have rtold156 := Mo.mo g744.s rtold156; have rnamed166 := Mo.mo g744.s rnamed166; have rcounts742 := Mo.mo g744.s rcounts742; exact (t_Test (e_eq (e_mod (e_sub (e_var (R := rI) rfl rfl) e_cI) (e_var (R := rI) rfl rfl)) e_cI))) (fun x743 σ' S1 H1 g744 hp => by have w745 := w737.go g744; obtain ⟨_, ⟨_, rfl, rfl⟩, ⟨_, rfl, rfl⟩⟩ := hp; have rknown10 := Mo.mo g744.s rknown10; have rparting136 := Mo.mo g744.s rparting136; have rtold156 := Mo.mo g744.s rtold156; have rnamed166 := Mo.mo g744.s rnamed166; have rcounts742 := Mo.mo g744.s rcounts742; exact (e_var (R := rI) rfl rfl)) (pm_cons pm_nm pm_nm)))) hm739 ?_
            intro passes746 vpasses754 S747 H748 s749 w750 p751 g753 rpasses755 hm752
            cases (show vpasses754 = .int passes746 from rpasses755)
            have rknown10 := Mo.mo g753.s rknown10
            have rparting136 := Mo.mo g753.s rparting136
            have rtold156 := Mo.mo g753.s rtold156
            have rnamed166 := Mo.mo g753.s rnamed166
            have rcounts742 := Mo.mo g753.s rcounts742
            have eb87 := eb87.tr g753.s
            have ex95 := ex95.tr g753.s
            refine q_if w750 p751 (t_Test (e_neW (c_repr (EvL.frz (l_lstL (a_consL (Ev.eta (e_call (E := E0) (fm := fm_passes_number) (R := rI) (a_one (e_var (R := rI) rfl rfl)))) (a_consL (e_callK (E := E0) (n := 0) (m' := 1) (ix := [0]) (fm := fm_passes_number) (A := (aOne rI)) (A1 := aNil) (A2 := (aOne rI)) (R := rI) (fun a b => b) a_nil (a_one (e_var (R := rI) rfl rfl)) (fun a b vs zs S h1 h2 => by obtain rfl := h1; obtain ⟨_, rfl, y0⟩ := h2; exact ⟨rfl, rfl, ⟨_, rfl, y0⟩⟩)) (a_nilL (R := rI)))))) (d_L (ds_all d_I))) (c_repr (EvL.frz (l_rep (EvL.rd (l_lstL (a_consL (e_var (R := rI) rfl rfl) (a_nilL (R := rI))))) e_cI)) (d_L (ds_all d_I))))) hm752 ?_ ?_
            · intro S756 H757 s758 w759 p760 g761 hm762
              have rknown10 := Mo.mo g761.s rknown10
              have rparting136 := Mo.mo g761.s rparting136
              have rtold156 := Mo.mo g761.s rtold156
              have rnamed166 := Mo.mo g761.s rnamed166
              have rcounts742 := Mo.mo g761.s rcounts742
              have eb87 := eb87.tr g761.s
              have ex95 := ex95.tr g761.s
              refine q_ret w759 p760 e_cB hm762 ?_
              intro r770 v771 S763 H764 s765 w766 p767 g769 rr772 hm768
              cases run_of_pure hm768
              exact rt94 _ _ _ rfl ⟨S763, w766.g, p767, rr772⟩
            · intro S773 H774 s775 w776 p777 g778 hm779
              have rknown10 := Mo.mo g778.s rknown10
              have rparting136 := Mo.mo g778.s rparting136
              have rtold156 := Mo.mo g778.s rtold156
              have rnamed166 := Mo.mo g778.s rnamed166
              have rcounts742 := Mo.mo g778.s rcounts742
              have eb87 := eb87.tr g778.s
              have ex95 := ex95.tr g778.s
              refine nx_done ?_
              refine q_if w776 p777 (t_Test (e_ne (c_sum (EvL.rd (l_lc1T (vs := [14, 19]) (f := (fun x780 => x780.2)) (R' := rI) (i_T (e_var rfl rcounts742)) ownOk0 (g_tp (gq_cons (g_nm (R := rI)) (gq_one (g_nm (R := rI))))) (fun x σ' S hp => by obtain ⟨_, ⟨_, rfl, _⟩, ⟨_, rfl, _⟩⟩ := hp; rfl) (fun x780 σ' S1 H1 g781 hp => by have w782 := w776.go g781; obtain ⟨_, ⟨_, rfl, rfl⟩, ⟨_, rfl, rfl⟩⟩ := hp; have rknown10 := Mo.mo g781.s rknown10; have rparting136 := Mo.mo g781.s rparting136; have rtold156 := Mo.mo g781.s rtold156; have rnamed166 := Mo.mo g781.s rnamed166; have rcounts742 := Mo.mo g781.s rcounts742; exact (e_var (R := rI) rfl rfl)) (pm_cons pm_nm pm_nm)))) (Ev.eta (e_call (E := E0) (fm := fm_rests_number) (R := rI) (a_one (e_var (R := rI) rfl rfl)))))) hm779 ?_ ?_
              · intro S783 H784 s785 w786 p787 g788 hm789
                have rknown10 := Mo.mo g788.s rknown10
                have rparting136 := Mo.mo g788.s rparting136
                have rtold156 := Mo.mo g788.s rtold156
                have rnamed166 := Mo.mo g788.s rnamed166
                have rcounts742 := Mo.mo g788.s rcounts742
                have eb87 := eb87.tr g788.s
                have ex95 := ex95.tr g788.s
                refine q_ret w786 p787 e_cB hm789 ?_
                intro r797 v798 S790 H791 s792 w793 p794 g796 rr799 hm795
                cases run_of_pure hm795
                exact rt94 _ _ _ rfl ⟨S790, w793.g, p794, rr799⟩
              · intro S800 H801 s802 w803 p804 g805 hm806
                have rknown10 := Mo.mo g805.s rknown10
                have rparting136 := Mo.mo g805.s rparting136
                have rtold156 := Mo.mo g805.s rtold156
                have rnamed166 := Mo.mo g805.s rnamed166
                have rcounts742 := Mo.mo g805.s rcounts742
                have eb87 := eb87.tr g805.s
                have ex95 := ex95.tr g805.s
                refine nx_done ?_
                refine q_if w803 p804 (t_Test (e_ne (c_max (EvL.rd (l_lc1T (vs := [14, 19]) (f := (fun x807 => x807.1)) (R' := rI) (i_T (e_var rfl rcounts742)) ownOk0 (g_tp (gq_cons (g_nm (R := rI)) (gq_one (g_nm (R := rI))))) (fun x σ' S hp => by obtain ⟨_, ⟨_, rfl, _⟩, ⟨_, rfl, _⟩⟩ := hp; rfl) (fun x807 σ' S1 H1 g808 hp => by have w809 := w803.go g808; obtain ⟨_, ⟨_, rfl, rfl⟩, ⟨_, rfl, rfl⟩⟩ := hp; have rknown10 := Mo.mo g808.s rknown10; have rparting136 := Mo.mo g808.s rparting136; have rtold156 := Mo.mo g808.s rtold156; have rnamed166 := Mo.mo g808.s rnamed166; have rcounts742 := Mo.mo g808.s rcounts742; exact (e_var (R := rI) rfl rfl)) (pm_cons pm_nm pm_nm)))) (Ev.eta (e_call (E := E0) (fm := fm_greatest_order) (R := rI) (a_one (e_var (R := rI) rfl rfl)))))) hm806 ?_ ?_
                · intro S810 H811 s812 w813 p814 g815 hm816
                  have rknown10 := Mo.mo g815.s rknown10
                  have rparting136 := Mo.mo g815.s rparting136
                  have rtold156 := Mo.mo g815.s rtold156
                  have rnamed166 := Mo.mo g815.s rnamed166
                  have rcounts742 := Mo.mo g815.s rcounts742
                  have eb87 := eb87.tr g815.s
                  have ex95 := ex95.tr g815.s
                  refine q_ret w813 p814 e_cB hm816 ?_
                  intro r824 v825 S817 H818 s819 w820 p821 g823 rr826 hm822
                  cases run_of_pure hm822
                  exact rt94 _ _ _ rfl ⟨S817, w820.g, p821, rr826⟩
                · intro S827 H828 s829 w830 p831 g832 hm833
                  have rknown10 := Mo.mo g832.s rknown10
                  have rparting136 := Mo.mo g832.s rparting136
                  have rtold156 := Mo.mo g832.s rtold156
                  have rnamed166 := Mo.mo g832.s rnamed166
                  have rcounts742 := Mo.mo g832.s rcounts742
                  have eb87 := eb87.tr g832.s
                  have ex95 := ex95.tr g832.s
                  refine nx_done ?_
                  refine q_set (fun v => [some v_script, some (.ref i.a), some vknown9, some (.int x13), some (.int n107), some (.int base117), some vparting135, some (.int rest137), some vtold155, some vnamed165, some vcounts741, some (.int passes746), some v, xdue79, xorder80, xstrong81, xleast82, xone83, xother84, none, none, none, none]) (fun _ => rfl) w830 p831 (e_eqQ (q_T (qs_all (q_T (qs_cons q_I (qs_one q_I))))) (by decide) (Ev.Q (e_var rfl rparting136) (d_T (ds_all (d_T (ds_cons d_I (ds_one d_I)))))) (Ev.Q (e_tupL (K := K) (a_consL (e_tup (K := K) (a_cons (e_var (R := rI) rfl rfl) (a_one e_cI)) (arN_cons arN_one) (by decide)) (a_nilL (R := (rT K (aCons rI (aOne rI))))))) (d_T (ds_all (d_T (ds_cons d_I (ds_one d_I))))))) hm833 ?_
                  intro prime834 vprime842 S835 H836 s837 w838 p839 g841 rprime843 hm840
                  cases (show vprime842 = .bl prime834 from rprime843)
                  have rknown10 := Mo.mo g841.s rknown10
                  have rparting136 := Mo.mo g841.s rparting136
                  have rtold156 := Mo.mo g841.s rtold156
                  have rnamed166 := Mo.mo g841.s rnamed166
                  have rcounts742 := Mo.mo g841.s rcounts742
                  have eb87 := eb87.tr g841.s
                  have ex95 := ex95.tr g841.s
                  refine q_set (fun v => [some v_script, some (.ref i.a), some vknown9, some (.int x13), some (.int n107), some (.int base117), some vparting135, some (.int rest137), some vtold155, some vnamed165, some vcounts741, some (.int passes746), some (.bl prime834), some v, xorder80, xstrong81, xleast82, xone83, xother84, none, none, none, none]) (fun _ => rfl) w838 p839 (e_and (e_not (e_var (R := rB) rfl rfl)) (e_and (e_eq (e_mod (e_sub (e_var (R := rI) rfl rfl) e_cI) (Ev.eta (e_call (E := E0) (fm := fm_greatest_order) (R := rI) (a_one (e_var (R := rI) rfl rfl))))) e_cI) (e_eqQ (q_L (qs_all q_I)) (by decide) (EvR.Q (EvL.rd (l_lcT (vs := [20, 21]) (t := (fun x844 => (decide ((1 : Int) < x844.2)))) (f := (fun x844 => x844.2)) (R' := rI) (i_T (e_var rfl rparting136)) ownOk0 (g_tp (gq_cons (g_nm (R := rI)) (gq_one (g_nm (R := rI))))) (fun x σ' S hp => by obtain ⟨_, ⟨_, rfl, _⟩, ⟨_, rfl, _⟩⟩ := hp; rfl) (fun x844 σ' S1 H1 g845 hp => by have w846 := w838.go g845; obtain ⟨_, ⟨_, rfl, rfl⟩, ⟨_, rfl, rfl⟩⟩ := hp; have rknown10 := Mo.mo g845.s rknown10; have rparting136 := Mo.mo g845.s rparting136; have rtold156 := Mo.mo g845.s rtold156; have rnamed166 := Mo.mo g845.s rnamed166; have rcounts742 := Mo.mo g845.s rcounts742; exact (t_Test (e_gt (e_var (R := rI) rfl rfl) e_cI))) (fun x844 σ' S1 H1 g845 hp => by have w846 := w838.go g845; obtain ⟨_, ⟨_, rfl, rfl⟩, ⟨_, rfl, rfl⟩⟩ := hp; have rknown10 := Mo.mo g845.s rknown10; have rparting136 := Mo.mo g845.s rparting136; have rtold156 := Mo.mo g845.s rtold156; have rnamed166 := Mo.mo g845.s rnamed166; have rcounts742 := Mo.mo g845.s rcounts742; exact (e_var (R := rI) rfl rfl)) (pm_cons pm_nm pm_nm))) (ds_all d_I)) (EvR.Q (EvL.rd (l_lstL (a_nilL (R := rI)))) (ds_all d_I))))) hm840 ?_
                  intro due847 vdue855 S848 H849 s850 w851 p852 g854 rdue856 hm853
                  cases (show vdue855 = .bl due847 from rdue856)
                  have rknown10 := Mo.mo g854.s rknown10
                  have rparting136 := Mo.mo g854.s rparting136
                  have rtold156 := Mo.mo g854.s rtold156
                  have rnamed166 := Mo.mo g854.s rnamed166
                  have rcounts742 := Mo.mo g854.s rcounts742
                  have eb87 := eb87.tr g854.s
                  have ex95 := ex95.tr g854.s
                  refine q_if w851 p852 (t_Test (e_neW (c_repr (EvL.frz (l_lstL (a_consL (Ev.eta (e_call (E := E0) (fm := fm_is_as_prime) (R := rB) (a_one (e_var (R := rI) rfl rfl)))) (a_consL (e_callK (E := E0) (n := 0) (m' := 1) (ix := [0]) (fm := fm_is_as_prime) (A := (aOne rI)) (A1 := aNil) (A2 := (aOne rI)) (R := rB) (fun a b => b) a_nil (a_one (e_var (R := rI) rfl rfl)) (fun a b vs zs S h1 h2 => by obtain rfl := h1; obtain ⟨_, rfl, y0⟩ := h2; exact ⟨rfl, rfl, ⟨_, rfl, y0⟩⟩)) (a_consL (Ev.eta (e_call (E := E0) (fm := fm_is_prime_number) (R := rB) (a_one (e_var (R := rI) rfl rfl)))) (a_nilL (R := rB))))))) (d_L (ds_all d_B))) (c_repr (EvL.frz (l_lstL (a_consL (e_var (R := rB) rfl rfl) (a_consL (e_var (R := rB) rfl rfl) (a_consL (e_var (R := rB) rfl rfl) (a_nilL (R := rB))))))) (d_L (ds_all d_B))))) hm853 ?_ ?_
                  · intro S857 H858 s859 w860 p861 g862 hm863
                    have rknown10 := Mo.mo g862.s rknown10
                    have rparting136 := Mo.mo g862.s rparting136
                    have rtold156 := Mo.mo g862.s rtold156
                    have rnamed166 := Mo.mo g862.s rnamed166
                    have rcounts742 := Mo.mo g862.s rcounts742
                    have eb87 := eb87.tr g862.s
                    have ex95 := ex95.tr g862.s
                    refine q_ret w860 p861 e_cB hm863 ?_
                    intro r871 v872 S864 H865 s866 w867 p868 g870 rr873 hm869
                    cases run_of_pure hm869
                    exact rt94 _ _ _ rfl ⟨S864, w867.g, p868, rr873⟩
                  · intro S874 H875 s876 w877 p878 g879 hm880
                    have rknown10 := Mo.mo g879.s rknown10
                    have rparting136 := Mo.mo g879.s rparting136
                    have rtold156 := Mo.mo g879.s rtold156
                    have rnamed166 := Mo.mo g879.s rnamed166
                    have rcounts742 := Mo.mo g879.s rcounts742
                    have eb87 := eb87.tr g879.s
                    have ex95 := ex95.tr g879.s
                    refine nx_done ?_
                    refine q_if w877 p878 (t_Test (e_ne (e_var (R := rB) rfl rfl) (e_and (e_not (e_var (R := rB) rfl rfl)) (e_eq (e_var (R := rI) rfl rfl) (Ev.eta (e_call (E := E0) (fm := fm_rests_number) (R := rI) (a_one (e_var (R := rI) rfl rfl)))))))) hm880 ?_ ?_
                    · intro S881 H882 s883 w884 p885 g886 hm887
                      have rknown10 := Mo.mo g886.s rknown10
                      have rparting136 := Mo.mo g886.s rparting136
                      have rtold156 := Mo.mo g886.s rtold156
                      have rnamed166 := Mo.mo g886.s rnamed166
                      have rcounts742 := Mo.mo g886.s rcounts742
                      have eb87 := eb87.tr g886.s
                      have ex95 := ex95.tr g886.s
                      refine q_ret w884 p885 e_cB hm887 ?_
                      intro r895 v896 S888 H889 s890 w891 p892 g894 rr897 hm893
                      cases run_of_pure hm893
                      exact rt94 _ _ _ rfl ⟨S888, w891.g, p892, rr897⟩
                    · intro S898 H899 s900 w901 p902 g903 hm904
                      have rknown10 := Mo.mo g903.s rknown10
                      have rparting136 := Mo.mo g903.s rparting136
                      have rtold156 := Mo.mo g903.s rtold156
                      have rnamed166 := Mo.mo g903.s rnamed166
                      have rcounts742 := Mo.mo g903.s rcounts742
                      have eb87 := eb87.tr g903.s
                      have ex95 := ex95.tr g903.s
                      refine nx_done ?_
                      refine q_if w901 p902 (t_Test (e_eq (e_mod (e_var (R := rI) rfl rfl) e_cI) e_cI)) hm904 ?_ ?_
                      · intro S905 H906 s907 w908 p909 g910 hm911
                        have rknown10 := Mo.mo g910.s rknown10
                        have rparting136 := Mo.mo g910.s rparting136
                        have rtold156 := Mo.mo g910.s rtold156
                        have rnamed166 := Mo.mo g910.s rnamed166
                        have rcounts742 := Mo.mo g910.s rcounts742
                        have eb87 := eb87.tr g910.s
                        have ex95 := ex95.tr g910.s
                        refine q_set (fun v => [some v_script, some (.ref i.a), some vknown9, some (.int x13), some (.int n107), some (.int base117), some vparting135, some (.int rest137), some vtold155, some vnamed165, some vcounts741, some (.int passes746), some (.bl prime834), some (.bl due847), xorder80, some v, xleast82, xone83, xother84, none, none, none, none]) (fun _ => rfl) w908 p909 (Ev.eta (e_call (E := E0) (fm := fm__law_strong) (R := rB) (a_cons (e_var (R := rI) rfl rfl) (a_one (e_var (R := rI) rfl rfl))))) hm911 ?_
                        intro strong912 vstrong920 S913 H914 s915 w916 p917 g919 rstrong921 hm918
                        cases (show vstrong920 = .bl strong912 from rstrong921)
                        have rknown10 := Mo.mo g919.s rknown10
                        have rparting136 := Mo.mo g919.s rparting136
                        have rtold156 := Mo.mo g919.s rtold156
                        have rnamed166 := Mo.mo g919.s rnamed166
                        have rcounts742 := Mo.mo g919.s rcounts742
                        have eb87 := eb87.tr g919.s
                        have ex95 := ex95.tr g919.s
                        refine q_if w916 p917 (t_Test (e_neW (c_repr (EvL.frz (l_lstL (a_consL (Ev.eta (e_call (E := E0) (fm := fm_does_pass_strongly) (R := rB) (a_cons (e_var (R := rI) rfl rfl) (a_one (e_var (R := rI) rfl rfl))))) (a_consL (e_callK (E := E0) (n := 0) (m' := 2) (ix := [1, 0]) (fm := fm_does_pass_strongly) (A := (aCons rI (aOne rI))) (A1 := aNil) (A2 := (aCons rI (aOne rI))) (R := rB) (fun a b => (b.2, b.1)) a_nil (a_cons (e_var (R := rI) rfl rfl) (a_one (e_var (R := rI) rfl rfl))) (fun a b vs zs S h1 h2 => by obtain rfl := h1; obtain ⟨_, _, rfl, y0, ⟨_, rfl, y1⟩⟩ := h2; exact ⟨rfl, rfl, ⟨_, _, rfl, y1, ⟨_, rfl, y0⟩⟩⟩)) (a_nilL (R := rB)))))) (d_L (ds_all d_B))) (c_repr (EvL.frz (l_lstL (a_consL (e_var (R := rB) rfl rfl) (a_consL (e_var (R := rB) rfl rfl) (a_nilL (R := rB)))))) (d_L (ds_all d_B))))) hm918 ?_ ?_
                        · intro S922 H923 s924 w925 p926 g927 hm928
                          have rknown10 := Mo.mo g927.s rknown10
                          have rparting136 := Mo.mo g927.s rparting136
                          have rtold156 := Mo.mo g927.s rtold156
                          have rnamed166 := Mo.mo g927.s rnamed166
                          have rcounts742 := Mo.mo g927.s rcounts742
                          have eb87 := eb87.tr g927.s
                          have ex95 := ex95.tr g927.s
                          refine q_ret w925 p926 e_cB hm928 ?_
                          intro r936 v937 S929 H930 s931 w932 p933 g935 rr938 hm934
                          cases run_of_pure hm934
                          exact rt94 _ _ _ rfl ⟨S929, w932.g, p933, rr938⟩
                        · intro S939 H940 s941 w942 p943 g944 hm945
                          have rknown10 := Mo.mo g944.s rknown10
                          have rparting136 := Mo.mo g944.s rparting136
                          have rtold156 := Mo.mo g944.s rtold156
                          have rnamed166 := Mo.mo g944.s rnamed166
                          have rcounts742 := Mo.mo g944.s rcounts742
                          have eb87 := eb87.tr g944.s
                          have ex95 := ex95.tr g944.s
                          refine nx_done ?_
                          refine q_if w942 p943 (t_and (t_Test (e_lt (e_var (R := rI) rfl rfl) e_cI)) (t_Test (e_ne (Ev.eta (e_call (E := E0) (fm := fm_strong_number) (R := rI) (a_one (e_var (R := rI) rfl rfl)))) (c_lenL (EvL.rd (l_lc (γ := Int) (vs := [22]) (mt := fun x946 k => Mir.lft (m__law_strong n107 x946) >>= fun r950 => k r950) (me := fun x946 k => k x946) (R' := rI) (i_R1 (e_var (R := rI) rfl rfl)) ownOk0 (g_nm (R := rI)) (fun x σ' S hp => by obtain ⟨_, rfl, _⟩ := hp; rfl) (fun x946 σ' S1 H1 g947 hp => by have w948 := w942.go g947; obtain ⟨_, rfl, rfl⟩ := hp; have rknown10 := Mo.mo g947.s rknown10; have rparting136 := Mo.mo g947.s rparting136; have rtold156 := Mo.mo g947.s rtold156; have rnamed166 := Mo.mo g947.s rnamed166; have rcounts742 := Mo.mo g947.s rcounts742; exact (t_B (Ev.eta (e_call (E := E0) (fm := fm__law_strong) (R := rB) (a_cons (e_var (R := rI) rfl rfl) (a_one (e_var (R := rI) rfl rfl))))))) (fun x946 σ' S1 H1 g947 hp => by have w948 := w942.go g947; obtain ⟨_, rfl, rfl⟩ := hp; have rknown10 := Mo.mo g947.s rknown10; have rparting136 := Mo.mo g947.s rparting136; have rtold156 := Mo.mo g947.s rtold156; have rnamed166 := Mo.mo g947.s rnamed166; have rcounts742 := Mo.mo g947.s rcounts742; exact (e_var (R := rI) rfl rfl)) pm_nm)))))) hm945 ?_ ?_
                          · intro S951 H952 s953 w954 p955 g956 hm957
                            have rknown10 := Mo.mo g956.s rknown10
                            have rparting136 := Mo.mo g956.s rparting136
                            have rtold156 := Mo.mo g956.s rtold156
                            have rnamed166 := Mo.mo g956.s rnamed166
                            have rcounts742 := Mo.mo g956.s rcounts742
                            have eb87 := eb87.tr g956.s
                            have ex95 := ex95.tr g956.s
                            refine q_ret w954 p955 e_cB hm957 ?_
                            intro r965 v966 S958 H959 s960 w961 p962 g964 rr967 hm963
                            cases run_of_pure hm963
                            exact rt94 _ _ _ rfl ⟨S958, w961.g, p962, rr967⟩
                          · intro S968 H969 s970 w971 p972 g973 hm974
                            have rknown10 := Mo.mo g973.s rknown10
                            have rparting136 := Mo.mo g973.s rparting136
                            have rtold156 := Mo.mo g973.s rtold156
                            have rnamed166 := Mo.mo g973.s rnamed166
                            have rcounts742 := Mo.mo g973.s rcounts742
                            have eb87 := eb87.tr g973.s
                            have ex95 := ex95.tr g973.s
                            refine nx_done ?_
                            refine q_if w971 p972 (t_or (t_andT (t_B (e_var (R := rB) rfl rfl)) (t_Test (e_ne (e_var (R := rI) rfl rfl) e_cI))) (t_Test (e_neW (c_repr (Ev.eta (e_call (E := E0) (fm := fm_is_prime_told) (R := rB) (a_one (e_var (R := rI) rfl rfl)))) d_B) (c_repr (e_var (R := rB) rfl rfl) d_B)))) hm974 ?_ ?_
                            · intro S975 H976 s977 w978 p979 g980 hm981
                              have rknown10 := Mo.mo g980.s rknown10
                              have rparting136 := Mo.mo g980.s rparting136
                              have rtold156 := Mo.mo g980.s rtold156
                              have rnamed166 := Mo.mo g980.s rnamed166
                              have rcounts742 := Mo.mo g980.s rcounts742
                              have eb87 := eb87.tr g980.s
                              have ex95 := ex95.tr g980.s
                              refine q_ret w978 p979 e_cB hm981 ?_
                              intro r989 v990 S982 H983 s984 w985 p986 g988 rr991 hm987
                              cases run_of_pure hm987
                              exact rt94 _ _ _ rfl ⟨S982, w985.g, p986, rr991⟩
                            · intro S992 H993 s994 w995 p996 g997 hm998
                              have rknown10 := Mo.mo g997.s rknown10
                              have rparting136 := Mo.mo g997.s rparting136
                              have rtold156 := Mo.mo g997.s rtold156
                              have rnamed166 := Mo.mo g997.s rnamed166
                              have rcounts742 := Mo.mo g997.s rcounts742
                              have eb87 := eb87.tr g997.s
                              have ex95 := ex95.tr g997.s
                              refine nx_done ?_
                              refine q_if w995 p996 (t_andT (t_Test (e_eq (e_var (R := rI) rfl rfl) e_cI)) (t_not (t_B (e_var (R := rB) rfl rfl)))) hm998 ?_ ?_
                              · intro S999 H1000 s1001 w1002 p1003 g1004 hm1005
                                have rknown10 := Mo.mo g1004.s rknown10
                                have rparting136 := Mo.mo g1004.s rparting136
                                have rtold156 := Mo.mo g1004.s rtold156
                                have rnamed166 := Mo.mo g1004.s rnamed166
                                have rcounts742 := Mo.mo g1004.s rcounts742
                                have eb87 := eb87.tr g1004.s
                                have ex95 := ex95.tr g1004.s
                                refine q_unp w1002 p1003 (e_two (Ev.eta (e_call (E := E0) (fm := fm_parted_by_base) (R := (rT K (aAll rI))) (a_cons (e_var (R := rI) rfl rfl) (a_one (e_var (R := rI) rfl rfl)))))) (g_tp (gq_cons (g_nm (R := rI)) (gq_one (g_nm (R := rI))))) hm1005 ?_
                                intro t1006 σ1014 S1007 H1008 s1009 w1010 p1011 g1013 hp hm1012
                                have rknown10 := Mo.mo g1013.s rknown10
                                have rparting136 := Mo.mo g1013.s rparting136
                                have rtold156 := Mo.mo g1013.s rtold156
                                have rnamed166 := Mo.mo g1013.s rnamed166
                                have rcounts742 := Mo.mo g1013.s rcounts742
                                have eb87 := eb87.tr g1013.s
                                have ex95 := ex95.tr g1013.s
                                obtain ⟨_, ⟨_, rfl, rfl⟩, ⟨_, rfl, rfl⟩⟩ := hp
                                refine q_if w1010 p1011 (t_orT (t_Test (e_ne (e_mul (e_var (R := rI) rfl rfl) (e_var (R := rI) rfl rfl)) (e_var (R := rI) rfl rfl))) (t_orT (t_Test (e_lt (e_var (R := rI) rfl rfl) e_cI)) (t_Test (e_gt (e_var (R := rI) rfl rfl) (e_var (R := rI) rfl rfl))))) hm1012 ?_ ?_
                                · intro S1015 H1016 s1017 w1018 p1019 g1020 hm1021
                                  have rknown10 := Mo.mo g1020.s rknown10
                                  have rparting136 := Mo.mo g1020.s rparting136
                                  have rtold156 := Mo.mo g1020.s rtold156
                                  have rnamed166 := Mo.mo g1020.s rnamed166
                                  have rcounts742 := Mo.mo g1020.s rcounts742
                                  have eb87 := eb87.tr g1020.s
                                  have ex95 := ex95.tr g1020.s
                                  refine q_ret w1018 p1019 e_cB hm1021 ?_
                                  intro r1029 v1030 S1022 H1023 s1024 w1025 p1026 g1028 rr1031 hm1027
                                  cases run_of_pure hm1027
                                  exact rt94 _ _ _ rfl ⟨S1022, w1025.g, p1026, rr1031⟩
                                · intro S1032 H1033 s1034 w1035 p1036 g1037 hm1038
                                  have rknown10 := Mo.mo g1037.s rknown10
                                  have rparting136 := Mo.mo g1037.s rparting136
                                  have rtold156 := Mo.mo g1037.s rtold156
                                  have rnamed166 := Mo.mo g1037.s rnamed166
                                  have rcounts742 := Mo.mo g1037.s rcounts742
                                  have eb87 := eb87.tr g1037.s
                                  have ex95 := ex95.tr g1037.s
                                  refine nx_done ?_
                                  refine nx_done ?_
                                  refine q_if w1035 p1036 (t_not (t_B (e_var (R := rB) rfl rfl))) hm1038 ?_ ?_
                                  · intro S1039 H1040 s1041 w1042 p1043 g1044 hm1045
                                    have rknown10 := Mo.mo g1044.s rknown10
                                    have rparting136 := Mo.mo g1044.s rparting136
                                    have rtold156 := Mo.mo g1044.s rtold156
                                    have rnamed166 := Mo.mo g1044.s rnamed166
                                    have rcounts742 := Mo.mo g1044.s rcounts742
                                    have eb87 := eb87.tr g1044.s
                                    have ex95 := ex95.tr g1044.s
                                    refine q_set (fun v => [some v_script, some (.ref i.a), some vknown9, some (.int x13), some (.int n107), some (.int base117), some vparting135, some (.int rest137), some vtold155, some vnamed165, some vcounts741, some (.int passes746), some (.bl prime834), some (.bl due847), xorder80, some (.bl strong912), some v, some (.int t1006.1), some (.int t1006.2), none, none, none, none]) (fun _ => rfl) w1042 p1043 (Ev.eta (e_call (E := E0) (fm := fm_least_showing) (R := rI) (a_one (e_var (R := rI) rfl rfl)))) hm1045 ?_
                                    intro least1046 vleast1054 S1047 H1048 s1049 w1050 p1051 g1053 rleast1055 hm1052
                                    cases (show vleast1054 = .int least1046 from rleast1055)
                                    have rknown10 := Mo.mo g1053.s rknown10
                                    have rparting136 := Mo.mo g1053.s rparting136
                                    have rtold156 := Mo.mo g1053.s rtold156
                                    have rnamed166 := Mo.mo g1053.s rnamed166
                                    have rcounts742 := Mo.mo g1053.s rcounts742
                                    have eb87 := eb87.tr g1053.s
                                    have ex95 := ex95.tr g1053.s
                                    refine q_if w1050 p1051 (t_or (t_B (Ev.eta (e_call (E := E0) (fm := fm__law_strong) (R := rB) (a_cons (e_var (R := rI) rfl rfl) (a_one (e_var (R := rI) rfl rfl)))))) (t_Test (e_neQ (q_L (qs_all q_I)) (by decide) (EvR.Q (EvL.rd (l_lc (γ := Int) (vs := [22]) (mt := fun x1056 k => Mir.lft (m__law_strong n107 x1056) >>= fun r1060 => k (!r1060)) (me := fun x1056 k => k x1056) (R' := rI) (i_R2 e_cI (e_var (R := rI) rfl rfl)) ownOk0 (g_nm (R := rI)) (fun x σ' S hp => by obtain ⟨_, rfl, _⟩ := hp; rfl) (fun x1056 σ' S1 H1 g1057 hp => by have w1058 := w1050.go g1057; obtain ⟨_, rfl, rfl⟩ := hp; have rknown10 := Mo.mo g1057.s rknown10; have rparting136 := Mo.mo g1057.s rparting136; have rtold156 := Mo.mo g1057.s rtold156; have rnamed166 := Mo.mo g1057.s rnamed166; have rcounts742 := Mo.mo g1057.s rcounts742; exact (t_not (t_B (Ev.eta (e_call (E := E0) (fm := fm__law_strong) (R := rB) (a_cons (e_var (R := rI) rfl rfl) (a_one (e_var (R := rI) rfl rfl)))))))) (fun x1056 σ' S1 H1 g1057 hp => by have w1058 := w1050.go g1057; obtain ⟨_, rfl, rfl⟩ := hp; have rknown10 := Mo.mo g1057.s rknown10; have rparting136 := Mo.mo g1057.s rparting136; have rtold156 := Mo.mo g1057.s rtold156; have rnamed166 := Mo.mo g1057.s rnamed166; have rcounts742 := Mo.mo g1057.s rcounts742; exact (e_var (R := rI) rfl rfl)) pm_nm)) (ds_all d_I)) (EvR.Q (EvL.rd (l_lstL (a_nilL (R := rI)))) (ds_all d_I))))) hm1052 ?_ ?_
                                    · intro S1061 H1062 s1063 w1064 p1065 g1066 hm1067
                                      have rknown10 := Mo.mo g1066.s rknown10
                                      have rparting136 := Mo.mo g1066.s rparting136
                                      have rtold156 := Mo.mo g1066.s rtold156
                                      have rnamed166 := Mo.mo g1066.s rnamed166
                                      have rcounts742 := Mo.mo g1066.s rcounts742
                                      have eb87 := eb87.tr g1066.s
                                      have ex95 := ex95.tr g1066.s
                                      refine q_ret w1064 p1065 e_cB hm1067 ?_
                                      intro r1075 v1076 S1068 H1069 s1070 w1071 p1072 g1074 rr1077 hm1073
                                      cases run_of_pure hm1073
                                      exact rt94 _ _ _ rfl ⟨S1068, w1071.g, p1072, rr1077⟩
                                    · intro S1078 H1079 s1080 w1081 p1082 g1083 hm1084
                                      have rknown10 := Mo.mo g1083.s rknown10
                                      have rparting136 := Mo.mo g1083.s rparting136
                                      have rtold156 := Mo.mo g1083.s rtold156
                                      have rnamed166 := Mo.mo g1083.s rnamed166
                                      have rcounts742 := Mo.mo g1083.s rcounts742
                                      have eb87 := eb87.tr g1083.s
                                      have ex95 := ex95.tr g1083.s
                                      refine nx_done ?_
                                      refine nx_done ?_
                                      refine nx_done ?_
                                      cases run_of_pure hm1084
                                      exact (nx92 _ _ _ _ rfl ⟨ex95, ⟨_, _, _, _, _, _, _, _, _, _, _, _, _, _, _, _, rfl, w1081, p1082, eb87⟩⟩).1
                                  · intro S1089 H1090 s1091 w1092 p1093 g1094 hm1095
                                    have rknown10 := Mo.mo g1094.s rknown10
                                    have rparting136 := Mo.mo g1094.s rparting136
                                    have rtold156 := Mo.mo g1094.s rtold156
                                    have rnamed166 := Mo.mo g1094.s rnamed166
                                    have rcounts742 := Mo.mo g1094.s rcounts742
                                    have eb87 := eb87.tr g1094.s
                                    have ex95 := ex95.tr g1094.s
                                    refine nx_done ?_
                                    refine nx_done ?_
                                    cases run_of_pure hm1095
                                    exact (nx92 _ _ _ _ rfl ⟨ex95, ⟨_, _, _, _, _, _, _, _, _, _, _, _, _, _, _, _, rfl, w1092, p1093, eb87⟩⟩).1
                              · intro S1098 H1099 s1100 w1101 p1102 g1103 hm1104
                                have rknown10 := Mo.mo g1103.s rknown10
                                have rparting136 := Mo.mo g1103.s rparting136
                                have rtold156 := Mo.mo g1103.s rtold156
                                have rnamed166 := Mo.mo g1103.s rnamed166
                                have rcounts742 := Mo.mo g1103.s rcounts742
                                have eb87 := eb87.tr g1103.s
                                have ex95 := ex95.tr g1103.s
                                refine nx_done ?_
                                refine q_if w1101 p1102 (t_not (t_B (e_var (R := rB) rfl rfl))) hm1104 ?_ ?_
                                · intro S1105 H1106 s1107 w1108 p1109 g1110 hm1111
                                  have rknown10 := Mo.mo g1110.s rknown10
                                  have rparting136 := Mo.mo g1110.s rparting136
                                  have rtold156 := Mo.mo g1110.s rtold156
                                  have rnamed166 := Mo.mo g1110.s rnamed166
                                  have rcounts742 := Mo.mo g1110.s rcounts742
                                  have eb87 := eb87.tr g1110.s
                                  have ex95 := ex95.tr g1110.s
                                  refine q_set (fun v => [some v_script, some (.ref i.a), some vknown9, some (.int x13), some (.int n107), some (.int base117), some vparting135, some (.int rest137), some vtold155, some vnamed165, some vcounts741, some (.int passes746), some (.bl prime834), some (.bl due847), xorder80, some (.bl strong912), some v, xone83, xother84, none, none, none, none]) (fun _ => rfl) w1108 p1109 (Ev.eta (e_call (E := E0) (fm := fm_least_showing) (R := rI) (a_one (e_var (R := rI) rfl rfl)))) hm1111 ?_
                                  intro least1112 vleast1120 S1113 H1114 s1115 w1116 p1117 g1119 rleast1121 hm1118
                                  cases (show vleast1120 = .int least1112 from rleast1121)
                                  have rknown10 := Mo.mo g1119.s rknown10
                                  have rparting136 := Mo.mo g1119.s rparting136
                                  have rtold156 := Mo.mo g1119.s rtold156
                                  have rnamed166 := Mo.mo g1119.s rnamed166
                                  have rcounts742 := Mo.mo g1119.s rcounts742
                                  have eb87 := eb87.tr g1119.s
                                  have ex95 := ex95.tr g1119.s
                                  refine q_if w1116 p1117 (t_or (t_B (Ev.eta (e_call (E := E0) (fm := fm__law_strong) (R := rB) (a_cons (e_var (R := rI) rfl rfl) (a_one (e_var (R := rI) rfl rfl)))))) (t_Test (e_neQ (q_L (qs_all q_I)) (by decide) (EvR.Q (EvL.rd (l_lc (γ := Int) (vs := [22]) (mt := fun x1122 k => Mir.lft (m__law_strong n107 x1122) >>= fun r1126 => k (!r1126)) (me := fun x1122 k => k x1122) (R' := rI) (i_R2 e_cI (e_var (R := rI) rfl rfl)) ownOk0 (g_nm (R := rI)) (fun x σ' S hp => by obtain ⟨_, rfl, _⟩ := hp; rfl) (fun x1122 σ' S1 H1 g1123 hp => by have w1124 := w1116.go g1123; obtain ⟨_, rfl, rfl⟩ := hp; have rknown10 := Mo.mo g1123.s rknown10; have rparting136 := Mo.mo g1123.s rparting136; have rtold156 := Mo.mo g1123.s rtold156; have rnamed166 := Mo.mo g1123.s rnamed166; have rcounts742 := Mo.mo g1123.s rcounts742; exact (t_not (t_B (Ev.eta (e_call (E := E0) (fm := fm__law_strong) (R := rB) (a_cons (e_var (R := rI) rfl rfl) (a_one (e_var (R := rI) rfl rfl)))))))) (fun x1122 σ' S1 H1 g1123 hp => by have w1124 := w1116.go g1123; obtain ⟨_, rfl, rfl⟩ := hp; have rknown10 := Mo.mo g1123.s rknown10; have rparting136 := Mo.mo g1123.s rparting136; have rtold156 := Mo.mo g1123.s rtold156; have rnamed166 := Mo.mo g1123.s rnamed166; have rcounts742 := Mo.mo g1123.s rcounts742; exact (e_var (R := rI) rfl rfl)) pm_nm)) (ds_all d_I)) (EvR.Q (EvL.rd (l_lstL (a_nilL (R := rI)))) (ds_all d_I))))) hm1118 ?_ ?_
                                  · intro S1127 H1128 s1129 w1130 p1131 g1132 hm1133
                                    have rknown10 := Mo.mo g1132.s rknown10
                                    have rparting136 := Mo.mo g1132.s rparting136
                                    have rtold156 := Mo.mo g1132.s rtold156
                                    have rnamed166 := Mo.mo g1132.s rnamed166
                                    have rcounts742 := Mo.mo g1132.s rcounts742
                                    have eb87 := eb87.tr g1132.s
                                    have ex95 := ex95.tr g1132.s
                                    refine q_ret w1130 p1131 e_cB hm1133 ?_
                                    intro r1141 v1142 S1134 H1135 s1136 w1137 p1138 g1140 rr1143 hm1139
                                    cases run_of_pure hm1139
                                    exact rt94 _ _ _ rfl ⟨S1134, w1137.g, p1138, rr1143⟩
                                  · intro S1144 H1145 s1146 w1147 p1148 g1149 hm1150
                                    have rknown10 := Mo.mo g1149.s rknown10
                                    have rparting136 := Mo.mo g1149.s rparting136
                                    have rtold156 := Mo.mo g1149.s rtold156
                                    have rnamed166 := Mo.mo g1149.s rnamed166
                                    have rcounts742 := Mo.mo g1149.s rcounts742
                                    have eb87 := eb87.tr g1149.s
                                    have ex95 := ex95.tr g1149.s
                                    refine nx_done ?_
                                    refine nx_done ?_
                                    refine nx_done ?_
                                    cases run_of_pure hm1150
                                    exact (nx92 _ _ _ _ rfl ⟨ex95, ⟨_, _, _, _, _, _, _, _, _, _, _, _, _, _, _, _, rfl, w1147, p1148, eb87⟩⟩).1
                                · intro S1155 H1156 s1157 w1158 p1159 g1160 hm1161
                                  have rknown10 := Mo.mo g1160.s rknown10
                                  have rparting136 := Mo.mo g1160.s rparting136
                                  have rtold156 := Mo.mo g1160.s rtold156
                                  have rnamed166 := Mo.mo g1160.s rnamed166
                                  have rcounts742 := Mo.mo g1160.s rcounts742
                                  have eb87 := eb87.tr g1160.s
                                  have ex95 := ex95.tr g1160.s
                                  refine nx_done ?_
                                  refine nx_done ?_
                                  cases run_of_pure hm1161
                                  exact (nx92 _ _ _ _ rfl ⟨ex95, ⟨_, _, _, _, _, _, _, _, _, _, _, _, _, _, _, _, rfl, w1158, p1159, eb87⟩⟩).1
                      · intro S1174 H1175 s1176 w1177 p1178 g1179 hm1180
                        have rknown10 := Mo.mo g1179.s rknown10
                        have rparting136 := Mo.mo g1179.s rparting136
                        have rtold156 := Mo.mo g1179.s rtold156
                        have rnamed166 := Mo.mo g1179.s rnamed166
                        have rcounts742 := Mo.mo g1179.s rcounts742
                        have eb87 := eb87.tr g1179.s
                        have ex95 := ex95.tr g1179.s
                        refine nx_done ?_
                        cases run_of_pure hm1180
                        exact (nx92 _ _ _ _ rfl ⟨ex95, ⟨_, _, _, _, _, _, _, _, _, _, _, _, _, _, _, _, rfl, w1177, p1178, eb87⟩⟩).1
    · rintro Sb12 st11 _ S1234 H1235 s1236 ⟨_, ⟨xturn1215, xn1216, xbase1217, xparting1218, xrest1219, xtold1220, xnamed1221, xcounts1222, xpasses1223, xprime1224, xdue1225, xorder1226, xstrong1227, xleast1228, xone1229, xother1230, rfl, w1231, p1232, eb1233⟩⟩ hm1237
      have hm1237 := hm1237.elim id id
      have rknown10 := Mo.mo eb1233 rknown10
      refine q_ret w1231 p1232 (Ev.eta (e_callP (F := fun i => potPt i) (i := i) (A := fun i => (aCons (rP i) (aOne (rL (aAll rI))))) (E := E0) (fm := fm__law_are_known_right) (R := rB) (a_cons (e_var (R := rP i) (a := ()) rfl rfl) (a_one (e_var rfl rknown10))))) hm1237 ?_
      intro r1245 v1246 S1238 H1239 s1240 w1241 p1242 g1244 rr1247 hm1243
      cases run_of_pure hm1243
      exact fin _ ⟨S1238, w1241.g, p1242, rr1247⟩
    · intro r1249 v1250 H' s' hr1 hm1
      cases run_of_pure hm1
      exact fin _ hr1
end
end Wk
set_option Elab.async false
set_option maxRecDepth 100000
set_option maxHeartbeats 4000000
set_option linter.all false
/-! P0: numbers: primes, how often they divide, partings -/
namespace Wk
theorem nmod (m p : Nat) : ((m : Int) % (p : Int)) = ((m % p : Nat) : Int) := by push_cast; rfl
theorem ndiv (m p : Nat) : ((m : Int) / (p : Int)) = ((m / p : Nat) : Int) := by push_cast; rfl
theorem mulmod (a b p : Nat) : ((a : Int) * (b : Int)) % (p : Int) = ((a * b % p : Nat) : Int) := by push_cast; rfl
def Pr (n : Nat) : Prop := 2 ≤ n ∧ ∀ d, 2 ≤ d → d < n → n % d ≠ 0
/-- a divisor that is prime -/
theorem pr_div : ∀ n : Nat, 2 ≤ n → ∃ q, Pr q ∧ n % q = 0 := by
  intro n
  induction n using Nat.strongRecOn with
  | _ n ih =>
    intro h2
    by_cases h : Pr n
    · exact ⟨n, h, Nat.mod_self n⟩
    · have : ∃ d, 2 ≤ d ∧ d < n ∧ n % d = 0 := Classical.byContradiction fun hn => h ⟨h2, fun d h1 h3 h4 => hn ⟨d, h1, h3, h4⟩⟩
      obtain ⟨d, h1, h3, h4⟩ := this
      obtain ⟨q, hq, e⟩ := ih d h3 h1
      exact ⟨q, hq, Nat.mod_eq_zero_of_dvd (Nat.dvd_trans (Nat.dvd_of_mod_eq_zero e) (Nat.dvd_of_mod_eq_zero h4))⟩
theorem Pr.pos {p : Nat} (h : Pr p) : 0 < p := by have := h.1; omega
theorem Pr.one {p d : Nat} (h : Pr p) (hd : d ∣ p) : d = 1 ∨ d = p := by
  have h0 : 0 < d := Nat.pos_of_dvd_of_pos hd h.pos
  have h1 : d ≤ p := Nat.le_of_dvd h.pos hd
  by_cases e : d = 1
  · exact .inl e
  · by_cases e2 : d = p
    · exact .inr e2
    · exact absurd (Nat.mod_eq_zero_of_dvd hd) (h.2 d (by omega) (by omega))
theorem Pr.cop {p a : Nat} (h : Pr p) (ha : ¬ p ∣ a) : Nat.Coprime p a := by
  rcases h.one (Nat.gcd_dvd_left p a) with e | e
  · exact e
  · exact absurd (e ▸ Nat.gcd_dvd_right p a) ha
theorem Pr.mul {p a b : Nat} (h : Pr p) (hd : p ∣ a * b) : p ∣ a ∨ p ∣ b := by
  by_cases ha : p ∣ a
  · exact .inl ha
  · exact .inr ((h.cop ha).dvd_of_dvd_mul_left hd)
theorem Pr.pow {p a : Nat} (h : Pr p) : ∀ {k : Nat}, p ∣ a ^ k → p ∣ a
  | 0, hd => by
    rw [Nat.pow_zero] at hd
    have := Nat.le_of_dvd (by decide) hd
    have := h.1
    omega
  | k + 1, hd => by
    rw [Nat.pow_succ] at hd
    rcases h.mul hd with e | e
    · exact h.pow e
    · exact e
/-- two primes, one a divisor of the other's power -/
theorem Pr.eq {p q : Nat} (hp : Pr p) (hq : Pr q) (h : p ∣ q) : p = q := by
  rcases hq.one h with e | e
  · have := hp.1; omega
  · exact e

/-! ### how often -/
def vp (p n : Nat) : Nat := if h : n = 0 ∨ p < 2 ∨ n % p ≠ 0 then 0 else vp p (n / p) + 1
termination_by n
decreasing_by exact Nat.div_lt_self (by omega) (by omega)
theorem vp_no {p n : Nat} (h : n % p ≠ 0) : vp p n = 0 := by rw [vp, dif_pos (.inr (.inr h))]
theorem vp_s {p n : Nat} (hn : 0 < n) (hp : 2 ≤ p) (h : n % p = 0) : vp p n = vp p (n / p) + 1 := by rw [vp, dif_neg (by omega)]
theorem vp_dvd {p : Nat} (hp : 2 ≤ p) : ∀ {n : Nat}, 0 < n → p ^ vp p n ∣ n := by
  intro n
  induction n using Nat.strongRecOn with
  | _ n ih =>
    intro hn
    by_cases h : n % p = 0
    · rw [vp_s hn hp h]
      have hd : n / p * p = n := Nat.div_mul_cancel (Nat.dvd_of_mod_eq_zero h)
      have h0 : 0 < n / p := Nat.div_pos (Nat.le_of_dvd hn (Nat.dvd_of_mod_eq_zero h)) (by omega)
      have := ih (n / p) (Nat.div_lt_self hn (by omega)) h0
      rw [Nat.pow_succ]
      conv => rhs; rw [← hd]
      exact Nat.mul_dvd_mul_right this p
    · rw [vp_no h, Nat.pow_zero]; exact Nat.one_dvd _
theorem vp_eq {p : Nat} (hp : 2 ≤ p) : ∀ {k m : Nat}, m % p ≠ 0 → vp p (p ^ k * m) = k
  | 0, m, h => by rw [Nat.pow_zero, Nat.one_mul, vp_no h]
  | k + 1, m, h => by
    have hm : 0 < m := Nat.pos_of_ne_zero (by rintro rfl; simp at h)
    have e : p ^ (k + 1) * m = p * (p ^ k * m) := by rw [Nat.pow_succ, Nat.mul_comm (p ^ k) p, Nat.mul_assoc]
    rw [e, vp_s (Nat.mul_pos (by omega) (Nat.mul_pos (Nat.pow_pos (by omega)) hm)) hp (Nat.mul_mod_right p _), Nat.mul_div_cancel_left _ (by omega), vp_eq hp h]
theorem vp_rest {p : Nat} (hp : 2 ≤ p) : ∀ {n : Nat}, 0 < n → n / p ^ vp p n % p ≠ 0 := by
  intro n
  induction n using Nat.strongRecOn with
  | _ n ih =>
    intro hn
    by_cases h : n % p = 0
    · rw [vp_s hn hp h, Nat.pow_succ, Nat.mul_comm, ← Nat.div_div_eq_div_mul]
      exact ih (n / p) (Nat.div_lt_self hn (by omega)) (Nat.div_pos (Nat.le_of_dvd hn (Nat.dvd_of_mod_eq_zero h)) (by omega))
    · rw [vp_no h, Nat.pow_zero, Nat.div_one]; exact h
theorem vp_split {p n : Nat} (hp : 2 ≤ p) (hn : 0 < n) : n = p ^ vp p n * (n / p ^ vp p n) := (Nat.mul_div_cancel' (vp_dvd hp hn)).symm
theorem vp_mul {p a b : Nat} (h : Pr p) (ha : 0 < a) (hb : 0 < b) : vp p (a * b) = vp p a + vp p b := by
  have e : a * b = p ^ (vp p a + vp p b) * ((a / p ^ vp p a) * (b / p ^ vp p b)) := by
    conv => lhs; rw [vp_split h.1 ha, vp_split h.1 hb]
    rw [Nat.pow_add]
    simp only [Nat.mul_assoc, Nat.mul_comm, Nat.mul_left_comm]
  conv => lhs; rw [e]
  refine vp_eq h.1 fun z => ?_
  rcases h.mul (Nat.dvd_of_mod_eq_zero z) with y | y
  · exact vp_rest h.1 ha (Nat.mod_eq_zero_of_dvd y)
  · exact vp_rest h.1 hb (Nat.mod_eq_zero_of_dvd y)
theorem vp_one {p : Nat} (hp : 2 ≤ p) : vp p 1 = 0 := vp_no (by rw [Nat.mod_eq_of_lt (by omega)]; decide)
theorem vp_self {p : Nat} (hp : 2 ≤ p) : vp p p = 1 := by
  have := vp_eq (k := 1) (m := 1) hp (by rw [Nat.mod_eq_of_lt (by omega)]; decide)
  rwa [Nat.pow_one, Nat.mul_one] at this
theorem vp_pos {p n : Nat} (hn : 0 < n) (hp : 2 ≤ p) (h : p ∣ n) : 0 < vp p n := by rw [vp_s hn hp (Nat.mod_eq_zero_of_dvd h)]; omega
theorem vp_lt {p n : Nat} (hp : 2 ≤ p) (hn : 0 < n) : vp p n < n := by
  have h1 := Nat.le_of_dvd hn (vp_dvd hp hn)
  have h2 : vp p n < 2 ^ vp p n := Nat.lt_two_pow_self
  have h3 : 2 ^ vp p n ≤ p ^ vp p n := Nat.pow_le_pow_left hp _
  omega

/-! ### partings -/
/-- the ascending list of all primes that divide, with how often -/
structure PF (n : Nat) (l : List (Nat × Nat)) : Prop where
  s : l.Pairwise (fun a b => a.1 < b.1)
  m : ∀ q k, (q, k) ∈ l ↔ Pr q ∧ q ∣ n ∧ k = vp q n
theorem sorted_eq : ∀ {l r : List (Nat × Nat)}, l.Pairwise (fun a b => a.1 < b.1) → r.Pairwise (fun a b => a.1 < b.1) → (∀ x, x ∈ l ↔ x ∈ r) → l = r
  | [], [], _, _, _ => rfl
  | [], y :: r, _, _, h => absurd ((h y).mpr (List.mem_cons_self ..)) (by simp)
  | x :: l, [], _, _, h => absurd ((h x).mp (List.mem_cons_self ..)) (by simp)
  | x :: l, y :: r, h1, h2, h => by
    have a1 := List.pairwise_cons.mp h1
    have a2 := List.pairwise_cons.mp h2
    have e : x = y := by
      rcases List.mem_cons.mp ((h x).mp (List.mem_cons_self ..)) with z | z
      · exact z
      · rcases List.mem_cons.mp ((h y).mpr (List.mem_cons_self ..)) with w | w
        · exact w.symm
        · have b1 := a2.1 x z
          have b2 := a1.1 y w
          omega
    subst e
    congr 1
    refine sorted_eq a1.2 a2.2 fun z => ?_
    constructor
    · intro hz
      rcases List.mem_cons.mp ((h z).mp (List.mem_cons_of_mem _ hz)) with w | w
      · have := a1.1 z hz
        rw [w] at this; omega
      · exact w
    · intro hz
      rcases List.mem_cons.mp ((h z).mpr (List.mem_cons_of_mem _ hz)) with w | w
      · have := a2.1 z hz
        rw [w] at this; omega
      · exact w
theorem PF.uniq {n : Nat} {l r : List (Nat × Nat)} (h : PF n l) (g : PF n r) : l = r := sorted_eq h.s g.s fun ⟨q, k⟩ => (h.m q k).trans (g.m q k).symm
theorem PF.one : PF 1 [] := ⟨List.Pairwise.nil, fun q k => by
  constructor
  · intro h; exact nomatch h
  · rintro ⟨h1, h2, _⟩
    have := Nat.le_of_dvd (by decide) h2
    have := h1.1
    omega⟩
theorem PF.prime {p : Nat} (h : Pr p) : PF p [(p, 1)] := ⟨List.pairwise_singleton .., fun q k => by
  rw [List.mem_singleton]
  constructor
  · rintro e
    cases e
    exact ⟨h, Nat.dvd_refl _, (vp_self h.1).symm⟩
  · rintro ⟨h1, h2, rfl⟩
    have e := h1.eq h h2
    subst e
    rw [vp_self h.1]⟩
/-- no lesser prime divides it -/
def Inv (p n : Nat) : Prop := ∀ q, Pr q → q < p → n % q ≠ 0
theorem inv2 (n : Nat) : Inv 2 n := fun q h hq => by have := h.1; omega
theorem Inv.prime {p n : Nat} (h : Inv p n) (hp : 2 ≤ p) (hd : n % p = 0) : Pr p := by
  obtain ⟨q, hq, e⟩ := pr_div p hp
  have hqp := Nat.le_of_dvd (by omega) (Nat.dvd_of_mod_eq_zero e)
  by_cases z : q = p
  · exact z ▸ hq
  · exact absurd (Nat.mod_eq_zero_of_dvd (Nat.dvd_trans (Nat.dvd_of_mod_eq_zero e) (Nat.dvd_of_mod_eq_zero hd))) (h q hq (by omega))
theorem Inv.no {p n : Nat} (h : Inv p n) (hd : n % p ≠ 0) : Inv (p + 1) n := fun q hq hlt => by
  by_cases z : q = p
  · exact z ▸ hd
  · exact h q hq (by omega)
theorem Inv.skip {p n : Nat} (h : Inv p n) (hp : ¬ Pr p) : Inv (p + 1) n := fun q hq hlt => by
  by_cases z : q = p
  · exact absurd (z ▸ hq) hp
  · exact h q hq (by omega)
theorem Inv.dvd {p n m : Nat} (h : Inv p n) (hd : m ∣ n) : Inv p m := fun q hq hlt e => h q hq hlt (Nat.mod_eq_zero_of_dvd (Nat.dvd_trans (Nat.dvd_of_mod_eq_zero e) hd))
theorem rest_dvd {p n : Nat} (hp : 2 ≤ p) (hn : 0 < n) : n / p ^ vp p n ∣ n := ⟨p ^ vp p n, by rw [Nat.mul_comm]; exact vp_split hp hn⟩
theorem rest_pos {p n : Nat} (hp : 2 ≤ p) (hn : 0 < n) : 0 < n / p ^ vp p n := Nat.pos_of_dvd_of_pos (rest_dvd hp hn) hn
theorem Inv.out {p n : Nat} (h : Inv p n) (hp : 2 ≤ p) (hn : 0 < n) : Inv (p + 1) (n / p ^ vp p n) := (h.dvd (rest_dvd hp hn)).no (vp_rest hp hn)
/-- what is left is a prime -/
theorem Inv.last {p n : Nat} (h : Inv p n) (h1 : 1 < n) (hp : n < p * p) : Pr n := by
  obtain ⟨q, hq, e⟩ := pr_div n h1
  have hqd := Nat.dvd_of_mod_eq_zero e
  obtain ⟨c, hc⟩ := hqd
  by_cases hc1 : c = 1
  · rw [hc, hc1, Nat.mul_one]; exact hq
  · exfalso
    have hc0 : 0 < c := Nat.pos_of_ne_zero (by rintro rfl; omega)
    have hqp : p ≤ q := Nat.le_of_not_lt fun z => h q hq z e
    obtain ⟨r, hr, e2⟩ := pr_div c (by omega)
    have hrp : p ≤ r := Nat.le_of_not_lt fun z => h r hr z (Nat.mod_eq_zero_of_dvd (Nat.dvd_trans (Nat.dvd_of_mod_eq_zero e2) ⟨q, by rw [hc, Nat.mul_comm]⟩))
    have hrc := Nat.le_of_dvd hc0 (Nat.dvd_of_mod_eq_zero e2)
    have : p * p ≤ q * c := Nat.mul_le_mul hqp (by omega)
    omega
theorem PF.cons {p n : Nat} {l : List (Nat × Nat)} (hi : Inv p n) (hp : 2 ≤ p) (hn : 0 < n) (hd : n % p = 0) (h : PF (n / p ^ vp p n) l) : PF n ((p, vp p n) :: l) := by
  have hpr := hi.prime hp hd
  have hr0 := rest_pos hp hn
  have key : ∀ q, Pr q → q ≠ p → vp q (n / p ^ vp p n) = vp q n := fun q hq hne => by
    conv => rhs; rw [vp_split hp hn]
    rw [vp_mul hq (Nat.pow_pos (by omega)) hr0, vp_no (n := p ^ vp p n) (fun e => hne (hq.eq hpr (hq.pow (Nat.dvd_of_mod_eq_zero e)))), Nat.zero_add]
  refine ⟨List.pairwise_cons.mpr ⟨fun ⟨q, k⟩ hm => ?_, h.s⟩, fun q k => ?_⟩
  · obtain ⟨h1, h2, _⟩ := (h.m q k).mp hm
    show p < q
    have := hi.out hp hn
    exact Nat.lt_of_not_le fun z => this q h1 (by omega) (Nat.mod_eq_zero_of_dvd h2)
  · rw [List.mem_cons, h.m]
    constructor
    · rintro (e | ⟨h1, h2, h3⟩)
      · cases e
        exact ⟨hpr, Nat.dvd_of_mod_eq_zero hd, rfl⟩
      · have hne : q ≠ p := by rintro rfl; exact vp_rest hp hn (Nat.mod_eq_zero_of_dvd h2)
        exact ⟨h1, Nat.dvd_trans h2 (rest_dvd hp hn), by rw [h3, key q h1 hne]⟩
    · rintro ⟨h1, h2, h3⟩
      by_cases e : q = p
      · subst e; subst h3; exact .inl rfl
      · refine .inr ⟨h1, ?_, by rw [h3, key q h1 e]⟩
        rw [vp_split hp hn] at h2
        rcases h1.mul h2 with z | z
        · exact absurd (h1.eq hpr (h1.pow z)) e
        · exact z

/-! ### a parting that can be asked -/
def out (p : Nat) : Nat → Nat → Nat × Nat
  | 0, n => (0, n)
  | f + 1, n => if n % p = 0 then ((out p f (n / p)).1 + 1, (out p f (n / p)).2) else (0, n)
theorem out_eq {p : Nat} (hp : 2 ≤ p) : ∀ (f n : Nat), 0 < n → n < 2 ^ f → out p f n = (vp p n, n / p ^ vp p n)
  | 0, n, hn, h => by rw [Nat.pow_zero] at h; omega
  | f + 1, n, hn, h => by
    rw [out]
    by_cases z : n % p = 0
    · have h0 : 0 < n / p := Nat.div_pos (Nat.le_of_dvd hn (Nat.dvd_of_mod_eq_zero z)) (by omega)
      have h1 : n / p < 2 ^ f := by
        have : n / p ≤ n / 2 := Nat.div_le_div_left hp (by decide)
        rw [Nat.pow_succ] at h
        omega
      rw [if_pos z, out_eq hp f (n / p) h0 h1, vp_s hn hp z]
      show (_, _) = (_, _)
      rw [Nat.pow_succ, Nat.mul_comm (p ^ _) p, ← Nat.div_div_eq_div_mul]
    · rw [if_neg z, vp_no z, Nat.pow_zero, Nat.div_one]
def pfc : Nat → Nat → Nat → List (Nat × Nat)
  | 0, _, _ => []
  | f + 1, p, n => if n < p * p then (if n ≤ 1 then [] else [(n, 1)]) else if n % p = 0 then (p, (out p 64 n).1) :: pfc f (p + 1) (out p 64 n).2 else pfc f (p + 1) n
def pf (n : Nat) : List (Nat × Nat) := pfc (n + 1) 2 n
theorem pfc_ok : ∀ (f p n : Nat), 2 ≤ p → 0 < n → n < 2 ^ 64 → n < (p + f) * (p + f) → Inv p n → PF n (pfc (f + 1) p n) := by
  intro f
  induction f with
  | zero =>
    intro p n hp hn h64 hlt hi
    have hlt : n < p * p := by simpa using hlt
    rw [pfc, if_pos hlt]
    by_cases z1 : n ≤ 1
    · rw [if_pos z1, show n = 1 by omega]; exact PF.one
    · rw [if_neg z1]; exact PF.prime (hi.last (by omega) hlt)
  | succ f ih =>
    intro p n hp hn h64 hlt hi
    rw [pfc]
    by_cases z : n < p * p
    · rw [if_pos z]
      by_cases z1 : n ≤ 1
      · rw [if_pos z1, show n = 1 by omega]; exact PF.one
      · rw [if_neg z1]; exact PF.prime (hi.last (by omega) z)
    · rw [if_neg z]
      have e : p + (f + 1) = p + 1 + f := by omega
      rw [e] at hlt
      by_cases y : n % p = 0
      · rw [if_pos y, out_eq hp 64 n hn h64]
        have hr := Nat.le_of_dvd hn (rest_dvd (p := p) hp hn)
        exact PF.cons hi hp hn y (ih (p + 1) _ (by omega) (rest_pos hp hn) (by omega) (by omega) (hi.out hp hn))
      · rw [if_neg y]
        exact ih (p + 1) n (by omega) hn h64 hlt (hi.no y)
theorem pf_ok {n : Nat} (hn : 0 < n) (h : n < 2 ^ 64) : PF n (pf n) := pfc_ok n 2 n (by decide) hn h (by
  have : n ≤ (2 + n) * 1 := by omega
  have : (2 + n) * 1 < (2 + n) * (2 + n) := Nat.mul_lt_mul_of_pos_left (by omega) (by omega)
  omega) (inv2 n)
def prB (n : Nat) : Bool := decide (pf n = [(n, 1)])
theorem prB_iff {n : Nat} (hn : 0 < n) (h : n < 2 ^ 64) : prB n = true ↔ Pr n := by
  unfold prB
  rw [decide_eq_true_iff]
  constructor
  · intro e
    have := (pf_ok hn h).m n 1
    rw [e] at this
    exact (this.mp (List.mem_singleton.mpr rfl)).1
  · intro hp
    exact (pf_ok hn h).uniq (PF.prime hp)
/-! ### what a parting's primes make -/
theorem PF.low {n q k : Nat} {l : List (Nat × Nat)} (h : PF n l) (hn : 0 < n) (hm : (q, k) ∈ l) : 2 ≤ q ∧ q ≤ n ∧ 1 ≤ k ∧ k < n := by
  obtain ⟨h1, h2, h3⟩ := (h.m q k).mp hm
  have a := Nat.le_of_dvd hn h2
  have b := vp_pos hn h1.1 h2
  have c := vp_lt h1.1 hn
  exact ⟨h1.1, a, by omega, by omega⟩
/-- a parting's head and its rest -/
theorem PF.tail {n p k : Nat} {l : List (Nat × Nat)} (h : PF n ((p, k) :: l)) (hn : 0 < n) : Pr p ∧ k = vp p n ∧ n = p ^ k * (n / p ^ k) ∧ PF (n / p ^ k) l ∧ 0 < n / p ^ k ∧ n / p ^ k % p ≠ 0 ∧ 0 < k := by
  obtain ⟨h1, h2, h3⟩ := (h.m p k).mp (List.mem_cons_self ..)
  have hs := List.pairwise_cons.mp h.s
  have hr0 := rest_pos h1.1 hn
  have hpos := vp_pos hn h1.1 h2
  subst h3
  refine ⟨h1, rfl, vp_split h1.1 hn, ⟨hs.2, fun q k => ?_⟩, hr0, vp_rest h1.1 hn, hpos⟩
  have key : ∀ q, Pr q → q ≠ p → vp q (n / p ^ vp p n) = vp q n := fun q hq hne => by
    conv => rhs; rw [vp_split h1.1 hn]
    rw [vp_mul hq (Nat.pow_pos h1.pos) hr0, vp_no (n := p ^ vp p n) (fun e => hne (hq.eq h1 (hq.pow (Nat.dvd_of_mod_eq_zero e)))), Nat.zero_add]
  constructor
  · intro hm
    have hlt := hs.1 _ hm
    obtain ⟨a1, a2, a3⟩ := (h.m q k).mp (List.mem_cons_of_mem _ hm)
    have hne : q ≠ p := by simp at hlt; omega
    refine ⟨a1, ?_, by rw [a3, key q a1 hne]⟩
    rw [vp_split h1.1 hn] at a2
    rcases a1.mul a2 with z | z
    · exact absurd (a1.eq h1 (a1.pow z)) hne
    · exact z
  · rintro ⟨a1, a2, a3⟩
    have hne : q ≠ p := by rintro rfl; exact vp_rest h1.1 hn (Nat.mod_eq_zero_of_dvd a2)
    rcases List.mem_cons.mp ((h.m q k).mpr ⟨a1, Nat.dvd_trans a2 (rest_dvd h1.1 hn), by rw [a3, key q a1 hne]⟩) with z | z
    · cases z; exact absurd rfl hne
    · exact z
def prd (l : List (Nat × Nat)) : Nat := l.foldr (fun y a => y.1 ^ y.2 * a) 1
theorem PF.prd : ∀ {l : List (Nat × Nat)} {n : Nat}, 0 < n → PF n l → prd l = n
  | [], n, hn, h => by
    show 1 = n
    by_cases z : n = 1
    · exact z.symm
    · obtain ⟨q, hq, e⟩ := pr_div n (by omega)
      exact absurd ((h.m q (vp q n)).mpr ⟨hq, Nat.dvd_of_mod_eq_zero e, rfl⟩) (by simp)
  | (p, k) :: l, n, hn, h => by
    obtain ⟨_, _, h3, h4, h5, _⟩ := h.tail hn
    show p ^ k * Wk.prd l = n
    rw [PF.prd h5 h4]
    exact h3.symm
theorem PF.len {n : Nat} {l : List (Nat × Nat)} (hn : 0 < n) (h : PF n l) : 2 ^ l.length ≤ n := by
  rw [← h.prd hn]
  have : ∀ r : List (Nat × Nat), (∀ y ∈ r, 2 ≤ y.1 ∧ 1 ≤ y.2) → 2 ^ r.length ≤ Wk.prd r := by
    intro r
    induction r with
    | nil => intro _; exact Nat.le_refl _
    | cons y r ih =>
      intro hy
      have h1 := hy y (List.mem_cons_self ..)
      have h2 := ih fun z hz => hy z (List.mem_cons_of_mem _ hz)
      show 2 ^ (r.length + 1) ≤ y.1 ^ y.2 * Wk.prd r
      rw [Nat.pow_succ, Nat.mul_comm]
      refine Nat.mul_le_mul ?_ h2
      have : y.1 ^ 1 ≤ y.1 ^ y.2 := Nat.pow_le_pow_right (by omega) h1.2
      rw [Nat.pow_one] at this
      omega
  exact this l fun ⟨q, k⟩ hm => by have := h.low hn hm; exact ⟨this.1, this.2.2.1⟩
end Wk
set_option Elab.async false
set_option maxRecDepth 100000
set_option maxHeartbeats 4000000
set_option linter.all false
/-! P1: powers and what they leave: Euler, orders, strong passes -/
namespace Wk
theorem mod_dvd {a b n : Nat} (h : a % n = b % n) (hb : b ≤ a) : n ∣ a - b := Nat.dvd_of_mod_eq_zero (Nat.sub_mod_eq_zero_of_mod_eq h)
theorem mod_of_dvd {a b n : Nat} (h : n ∣ a - b) (hb : b ≤ a) : a % n = b % n := by
  obtain ⟨c, hc⟩ := h
  have e : a = b + n * c := by omega
  rw [e, Nat.add_mul_mod_self_left]
theorem mul_cong {a b c d n : Nat} (h : a % n = b % n) (g : c % n = d % n) : a * c % n = b * d % n := by rw [Nat.mul_mod, h, g, ← Nat.mul_mod]
theorem pow_cong {a b n : Nat} (h : a % n = b % n) (k : Nat) : a ^ k % n = b ^ k % n := by rw [Nat.pow_mod, h, ← Nat.pow_mod]
/-- one factor is cut -/
theorem cut_cong {x y n : Nat} (hx : Nat.gcd x n = 1) (h : x * y % n = x % n) : y % n = 1 % n := by
  by_cases hy : y = 0
  · subst hy
    rw [Nat.mul_zero, Nat.zero_mod] at h
    have : n ∣ x := Nat.dvd_of_mod_eq_zero h.symm
    have := Nat.gcd_eq_right this
    rw [hx] at this
    rw [← this]
  · have hle : x * 1 ≤ x * y := Nat.mul_le_mul_left x (by omega)
    have h1 : x * y % n = x * 1 % n := by rw [Nat.mul_one]; exact h
    have h2 := mod_dvd h1 hle
    rw [← Nat.mul_sub] at h2
    have hc : Nat.Coprime n x := by rw [Nat.Coprime, Nat.gcd_comm]; exact hx
    exact mod_of_dvd (hc.dvd_of_dvd_mul_left h2) (by omega)

/-! ### arrangements -/
theorem perm_of : ∀ {l r : List Nat}, l.Nodup → r.Nodup → (∀ x ∈ l, x ∈ r) → r.length ≤ l.length → l.Perm r
  | [], r, _, _, _, h => by
    have : r = [] := List.length_eq_zero_iff.mp (by simpa using h)
    rw [this]
  | x :: l, r, h1, h2, h3, h4 => by
    have a := List.nodup_cons.mp h1
    have hx : x ∈ r := h3 x (List.mem_cons_self ..)
    have hp := List.perm_cons_erase hx
    have hl : (r.erase x).length = r.length - 1 := List.length_erase_of_mem hx
    refine (List.Perm.cons x (perm_of a.2 (h2.erase x) (fun y hy => ?_) ?_)).trans hp.symm
    · exact (List.mem_erase_of_ne (by rintro rfl; exact a.1 hy)).mpr (h3 y (List.mem_cons_of_mem _ hy))
    · rw [List.length_cons] at h4; omega
def pro (l : List Nat) : Nat := l.foldr (· * ·) 1
theorem pro_perm {l r : List Nat} (h : l.Perm r) : pro l = pro r := by
  induction h with
  | nil => rfl
  | cons x _ ih => show x * pro _ = x * pro _; rw [ih]
  | swap x y l => show y * (x * pro l) = x * (y * pro l); rw [Nat.mul_left_comm]
  | trans _ _ a b => exact a.trans b
theorem pro_map {a n : Nat} : ∀ l : List Nat, pro (l.map fun x => a * x % n) % n = a ^ l.length * pro l % n
  | [] => by show 1 % n = a ^ 0 * 1 % n; rw [Nat.pow_zero]
  | x :: l => by
    show (a * x % n) * pro (l.map fun x => a * x % n) % n = a ^ (l.length + 1) * (x * pro l) % n
    have h1 : (a * x % n) % n = (a * x) % n := Nat.mod_mod _ _
    rw [mul_cong h1 (pro_map l), Nat.pow_succ]
    congr 1
    simp only [Nat.mul_comm, Nat.mul_left_comm, Nat.mul_assoc]
/-- the rests without a divisor in common -/
def uni (n : Nat) : List Nat := (List.range n).filter fun x => decide (Nat.gcd x n = 1)
theorem mem_uni {n x : Nat} : x ∈ uni n ↔ x < n ∧ Nat.gcd x n = 1 := by
  unfold uni
  rw [List.mem_filter, List.mem_range, decide_eq_true_iff]
theorem uni_nd (n : Nat) : (uni n).Nodup := List.nodup_range.sublist List.filter_sublist
theorem gcd_mod_one {a n : Nat} : Nat.gcd (a % n) n = Nat.gcd a n := by rw [← Nat.gcd_rec, Nat.gcd_comm]
theorem uni_pro (n : Nat) : Nat.gcd (pro (uni n)) n = 1 := by
  have : ∀ l : List Nat, (∀ x ∈ l, Nat.gcd x n = 1) → Nat.gcd (pro l) n = 1 := by
    intro l
    induction l with
    | nil => intro _; exact Nat.gcd_one_left n
    | cons x l ih =>
      intro h
      show Nat.gcd (x * pro l) n = 1
      exact Nat.Coprime.mul_left (h x (List.mem_cons_self ..)) (ih fun y hy => h y (List.mem_cons_of_mem _ hy))
  exact this _ fun x hx => (mem_uni.mp hx).2
theorem cop_cut {a x y n : Nat} (ha : Nat.gcd a n = 1) (hxy : x ≤ y) (h : a * x % n = a * y % n) : x % n = y % n := by
  have h2 := mod_dvd h.symm (Nat.mul_le_mul_left a hxy)
  rw [← Nat.mul_sub] at h2
  have hc : Nat.Coprime n a := by rw [Nat.Coprime, Nat.gcd_comm]; exact ha
  exact (mod_of_dvd (hc.dvd_of_dvd_mul_left h2) hxy).symm
theorem euler {a n : Nat} (hn : 0 < n) (ha : Nat.gcd a n = 1) : a ^ (uni n).length % n = 1 % n := by
  have hp : ((uni n).map fun x => a * x % n).Perm (uni n) := by
    refine perm_of ?_ (uni_nd n) ?_ (by rw [List.length_map]; exact Nat.le_refl _)
    · rw [List.nodup_iff_pairwise_ne, List.pairwise_map]
      refine List.Pairwise.imp_of_mem ?_ (List.nodup_iff_pairwise_ne.mp (uni_nd n))
      intro x y hx hy hne e
      have h1 := (mem_uni.mp hx).1
      have h2 := (mem_uni.mp hy).1
      rcases Nat.le_total x y with z | z
      · have := cop_cut ha z e
        rw [Nat.mod_eq_of_lt h1, Nat.mod_eq_of_lt h2] at this
        exact hne this
      · have := cop_cut ha z e.symm
        rw [Nat.mod_eq_of_lt h1, Nat.mod_eq_of_lt h2] at this
        exact hne this.symm
    · intro x hx
      obtain ⟨y, hy, rfl⟩ := List.mem_map.mp hx
      refine mem_uni.mpr ⟨Nat.mod_lt _ hn, ?_⟩
      rw [gcd_mod_one]
      exact Nat.Coprime.mul_left ha (mem_uni.mp hy).2
  have e := pro_map (a := a) (n := n) (uni n)
  rw [pro_perm hp, Nat.mul_comm] at e
  exact cut_cong (uni_pro n) e.symm
theorem uni_prime {p : Nat} (h : Pr p) : (uni p).length = p - 1 := by
  have e : uni p = (List.range p).filter fun x => decide (x ≠ 0) := by
    unfold uni
    apply List.filter_congr
    intro x hx
    have hx := List.mem_range.mp hx
    by_cases z : x = 0
    · subst z
      have := h.1
      refine decide_eq_decide.mpr ?_
      rw [Nat.gcd_zero_left]
      omega
    · have : Nat.gcd x p = 1 := by
        rw [Nat.gcd_comm]
        exact h.cop fun hd => by have := Nat.le_of_dvd (by omega) hd; omega
      simp [this, z]
  rw [e]
  obtain ⟨q, rfl⟩ : ∃ q, p = q + 1 := ⟨p - 1, by have := h.1; omega⟩
  rw [List.range_succ_eq_map, List.filter_cons_of_neg (by simp), List.filter_eq_self.mpr (by simp)]
  simp
theorem fermat {p a : Nat} (h : Pr p) (ha : ¬ p ∣ a) : a ^ (p - 1) % p = 1 := by
  have := euler h.pos (a := a) (by rw [Nat.gcd_comm]; exact h.cop ha)
  rw [uni_prime h, Nat.mod_eq_of_lt (show 1 < p from h.1)] at this
  exact this

/-! ### orders -/
theorem pow_gcd {a n : Nat} : ∀ (x y : Nat), a ^ x % n = 1 % n → a ^ y % n = 1 % n → a ^ Nat.gcd x y % n = 1 % n := by
  intro x
  induction x using Nat.strongRecOn with
  | _ x ih =>
    intro y hx hy
    by_cases z : x = 0
    · subst z; rw [Nat.gcd_zero_left]; exact hy
    · rw [Nat.gcd_rec]
      refine ih (y % x) (Nat.mod_lt _ (by omega)) x ?_ hx
      have e : a ^ y = (a ^ x) ^ (y / x) * a ^ (y % x) := by rw [← Nat.pow_mul, ← Nat.pow_add, Nat.div_add_mod]
      rw [e, mul_cong (pow_cong hx (y / x)) rfl, Nat.one_pow, Nat.one_mul] at hy
      exact hy
theorem pow_mul_one {a n x : Nat} (h : a ^ x % n = 1 % n) {y : Nat} (hd : x ∣ y) : a ^ y % n = 1 % n := by
  obtain ⟨c, rfl⟩ := hd
  rw [Nat.pow_mul, pow_cong h c, Nat.one_pow]
/-- no lesser one -/
theorem order_dvd {a n K m : Nat} (hK : 0 < K) (h : a ^ K % n = 1 % n) (hp : ∀ q, Pr q → K % q = 0 → a ^ (K / q) % n ≠ 1 % n) (hm : a ^ m % n = 1 % n) : K ∣ m := by
  have hg := pow_gcd K m h hm
  have hd := Nat.gcd_dvd_left K m
  have h0 : 0 < Nat.gcd K m := Nat.pos_of_dvd_of_pos hd hK
  by_cases e : Nat.gcd K m = K
  · exact e ▸ Nat.gcd_dvd_right K m
  · exfalso
    obtain ⟨c, hc⟩ := hd
    generalize Nat.gcd K m = g at *
    have hc2 : 2 ≤ c := by
      rcases c with _ | _ | c
      · omega
      · omega
      · omega
    obtain ⟨q, hq, hqc⟩ := pr_div c hc2
    obtain ⟨d, hd⟩ := Nat.dvd_of_mod_eq_zero hqc
    have hKq : K = q * (g * d) := by rw [hc, hd, Nat.mul_left_comm]
    refine hp q hq (Nat.mod_eq_zero_of_dvd ⟨_, hKq⟩) ?_
    rw [hKq, Nat.mul_div_cancel_left _ hq.pos]
    exact pow_mul_one hg ⟨d, rfl⟩

/-! ### strong passes -/
/-- a passes n strongly, n - 1 being 2 ^ s * d -/
def Strong (n a s d : Nat) : Prop := a ^ d % n = 1 ∨ ∃ i, i < s ∧ a ^ (2 ^ i * d) % n = n - 1
instance (n a s d : Nat) : Decidable (Strong n a s d) := by
  unfold Strong
  have : Decidable (∃ i, i < s ∧ a ^ (2 ^ i * d) % n = n - 1) := decidable_of_iff ((List.range s).any fun i => decide (a ^ (2 ^ i * d) % n = n - 1)) (by simp)
  exact inferInstance
theorem sq_one {p x : Nat} (h : Pr p) (hx : x * x % p = 1) : x % p = 1 ∨ x % p = p - 1 := by
  have h2 := h.1
  have hx0 : 0 < x := Nat.pos_of_ne_zero (by rintro rfl; simp at hx)
  have h1 : 1 ≤ x * x := Nat.mul_pos hx0 hx0
  have hd : p ∣ x * x - 1 := mod_dvd (by rw [hx, Nat.mod_eq_of_lt (by omega)]) h1
  have e : x * x - 1 = (x + 1) * (x - 1) := by
    obtain ⟨y, rfl⟩ : ∃ y, x = y + 1 := ⟨x - 1, by omega⟩
    rw [Nat.add_sub_cancel]
    have : (y + 1) * (y + 1) = (y + 1 + 1) * y + 1 := by
      simp only [Nat.add_mul, Nat.mul_add, Nat.one_mul, Nat.mul_one]; omega
    omega
  rw [e] at hd
  rcases h.mul hd with z | z
  · right
    have := Nat.mod_eq_zero_of_dvd z
    have hlt := Nat.mod_lt x h.pos
    rw [Nat.add_mod, Nat.mod_eq_of_lt (show 1 < p by omega)] at this
    by_cases y : x % p + 1 < p
    · rw [Nat.mod_eq_of_lt y] at this; omega
    · omega
  · left
    rw [mod_of_dvd z hx0, Nat.mod_eq_of_lt (by omega)]
theorem strong_prime {p a s d : Nat} (h : Pr p) (ha : ¬ p ∣ a) (he : p - 1 = 2 ^ s * d) : Strong p a s d := by
  have h2 := h.1
  have key : ∀ j, j ≤ s → a ^ (2 ^ j * d) % p = 1 → Strong p a s d := by
    intro j
    induction j with
    | zero => intro _ h1; exact .inl (by rw [Nat.pow_zero, Nat.one_mul] at h1; exact h1)
    | succ j ih =>
      intro hj h1
      have e : a ^ (2 ^ (j + 1) * d) = a ^ (2 ^ j * d) * a ^ (2 ^ j * d) := by
        rw [← Nat.pow_add, Nat.pow_succ, Nat.mul_comm (2 ^ j) 2, Nat.mul_assoc, Nat.two_mul]
      rw [e] at h1
      rcases sq_one h h1 with z | z
      · exact ih (by omega) z
      · exact .inr ⟨j, by omega, z⟩
  exact key s (Nat.le_refl _) (by rw [← he]; exact fermat h ha)
theorem strong_pass {n a s d : Nat} (hn : 2 ≤ n) (he : n - 1 = 2 ^ s * d) (h : Strong n a s d) : a ^ (n - 1) % n = 1 := by
  rcases h with h | ⟨i, hi, h⟩
  · rw [he, Nat.mul_comm, Nat.pow_mul, pow_cong (b := 1) (by rw [h, Nat.mod_eq_of_lt (by omega)]), Nat.one_pow, Nat.mod_eq_of_lt (by omega)]
  · have e : 2 ^ s * d = 2 ^ i * d * (2 * 2 ^ (s - i - 1)) := by
      have : 2 ^ s = 2 ^ i * (2 * 2 ^ (s - i - 1)) := by
        rw [← Nat.pow_succ', ← Nat.pow_add]; congr 1; omega
      rw [this]
      simp only [Nat.mul_comm, Nat.mul_left_comm, Nat.mul_assoc]
    have hsq : (n - 1) * (n - 1) % n = 1 := by
      obtain ⟨m, rfl⟩ : ∃ m, n = m + 2 := ⟨n - 2, by omega⟩
      have : (m + 2 - 1) * (m + 2 - 1) = 1 + (m + 2) * m := by
        show (m + 1) * (m + 1) = _
        simp only [Nat.add_mul, Nat.mul_add, Nat.one_mul, Nat.mul_one]; omega
      rw [this, Nat.add_mul_mod_self_left, Nat.mod_eq_of_lt (by omega)]
    have h2 : (a ^ (2 ^ i * d)) ^ 2 % n = 1 % n := by
      rw [Nat.pow_two, mul_cong (b := n - 1) (d := n - 1) (by rw [h, Nat.mod_eq_of_lt (by omega)]) (by rw [h, Nat.mod_eq_of_lt (by omega)]), hsq, Nat.mod_eq_of_lt (by omega)]
    rw [he, e, Nat.pow_mul, Nat.pow_mul, pow_cong h2, Nat.one_pow, Nat.mod_eq_of_lt (by omega)]
end Wk
set_option Elab.async false
set_option maxRecDepth 100000
set_option maxHeartbeats 4000000
set_option linter.all false
/-! P2: what the defs of numbers and their partings give -/
namespace Wk
open PySem L2
open PyProof.Rows hiding St
theorem taken_out_ok {p n : Nat} (hp : 2 ≤ p) (hq : p < 10 ^ 40) (hn : 0 < n) (hN : n < 10 ^ 40) : m_taken_out n p = some ((vp p n : Int), ((n / p ^ vp p n : Nat) : Int)) := by
  unfold m_taken_out
  refine tt_eq (tt_bnd.mpr (Tt.then (P' := fun st _ => st = (((n / p ^ vp p n : Nat) : Int), (vp p n : Int))) ?_ ?_))
  · refine Tt.wh (I := fun (st : Int × Int) _ => ∃ m j : Nat, st = ((m : Int), (j : Int)) ∧ 0 < m ∧ m ≤ n ∧ j + vp p m = vp p n ∧ m / p ^ vp p m = n / p ^ vp p n) (nu := fun st => st.1.toNat) ?_ many _ _ ⟨n, 0, rfl, hn, Nat.le_refl _, by omega, rfl⟩ (lt_many (by simpa using hN))
    rintro st s k P ⟨m, j, rfl, h0, hle, h1, h2⟩ hk
    refine tt_grd.mpr ⟨by omega, hk _ _ (fun ht => ?_) (fun ht => ?_)⟩
    · have hd : m % p = 0 := by simp only [decide_eq_true_eq] at ht; omega
      have hdv := Nat.dvd_of_mod_eq_zero hd
      have h3 : 0 < m / p := Nat.div_pos (Nat.le_of_dvd h0 hdv) (by omega)
      have h4 : m / p < m := Nat.div_lt_self h0 (by omega)
      refine tt_bnd.mpr (tt_grd.mpr ⟨dv_nat (by omega) hq, tt_bnd.mpr (tt_pure.mpr ⟨⟨m / p, j + 1, by rw [ndiv]; rfl, h3, by omega, ?_, ?_⟩, ?_⟩)⟩)
      · rw [vp_s h0 hp hd] at h1; omega
      · rw [← h2, vp_s h0 hp hd, Nat.pow_succ, Nat.mul_comm (p ^ _) p, ← Nat.div_div_eq_div_mul]
      · show ((m : Int) / (p : Int)).toNat < (m : Int).toNat
        rw [ndiv]; omega
    · have hd : m % p ≠ 0 := by simp only [decide_eq_false_iff_not] at ht; omega
      rw [vp_no hd] at h1 h2
      show ((m : Int), (j : Int)) = _
      rw [Nat.pow_zero, Nat.div_one] at h2
      rw [← h2, ← h1, Nat.add_zero]
  · rintro st _ rfl
    simp only [tt_bnd, tt_pure]
/-- a power's rest, one loop for all who ask it -/
theorem power_step {j f o m : Nat} (hj : 0 < j) (hm : 0 < m) : (if j % 2 = 1 then f * o % m else f) * (o * o % m) ^ (j / 2) % m = f * o ^ j % m := by
  have key : ∀ g, g * (o * o % m) ^ (j / 2) % m = g * o ^ (2 * (j / 2)) % m := fun g => by
    rw [Nat.mul_mod, ← Nat.pow_mod, ← Nat.mul_mod, Nat.pow_mul, Nat.pow_two]
  rw [key]
  by_cases z : j % 2 = 1
  · rw [if_pos z]
    have : j = 2 * (j / 2) + 1 := by omega
    have e4 : o ^ j = o * o ^ (2 * (j / 2)) := by
      conv => lhs; rw [this]
      rw [Nat.pow_succ, Nat.mul_comm]
    rw [e4, ← Nat.mul_assoc, Nat.mul_mod, Nat.mod_mod, ← Nat.mul_mod]
  · rw [if_neg z]
    have : 2 * (j / 2) = j := by omega
    rw [this]
theorem power_left_ok {a e m : Nat} (hm : 2 ≤ m) (hm2 : m < 10 ^ 14) (he : e < 10 ^ 40) : m_power_left a e m = some ((a ^ e % m : Nat) : Int) := by
  unfold m_power_left
  have hm0 : 0 < m := by omega
  refine tt_eq (tt_bnd.mpr (tt_grd.mpr ⟨by omega, tt_bnd.mpr (Tt.then (P' := fun st _ => st.2.2 = ((a ^ e % m : Nat) : Int)) ?_ fun st _ h => ?_)⟩))
  · rw [nmod]
    refine Tt.wh (I := fun (st : Int × Int × Int) _ => ∃ (o j f : Nat), st = ((o : Int), (j : Int), (f : Int)) ∧ f < m ∧ o < m ∧ f * o ^ j % m = a ^ e % m) (nu := fun st => st.2.1.toNat) ?_ many _ _ ⟨a % m, e, 1, rfl, by omega, Nat.mod_lt _ hm0, ?_⟩ (lt_many (by simpa using he))
    · rintro st s K P ⟨o, j, f, rfl, hf, ho, e1⟩ hk
      refine hk _ _ (fun ht => ?_) (fun ht => ?_)
      · have hj : 0 < j := by simpa using ht
        refine tt_grd.mpr ⟨by decide, Tt.then (P' := fun st _ => st = ((if j % 2 = 1 then f * o % m else f : Nat) : Int)) ?_ ?_⟩
        · by_cases z : j % 2 = 1
          · rw [if_pos (show (decide ((j : Int) % 2 = 1) = true) by rw [decide_eq_true_iff]; omega)]
            simp only [tt_grd, tt_bnd, tt_pure]
            refine ⟨⟨sm_small (by omega), sm_small (by omega)⟩, by omega, ?_⟩
            rw [mulmod, if_pos z]
          · rw [if_neg (show ¬ (decide ((j : Int) % 2 = 1) = true) by rw [decide_eq_true_iff]; omega)]
            rw [if_neg z]; exact tt_pure.mpr rfl
        · rintro st s1 rfl
          simp only [tt_grd, tt_bnd, tt_pure]
          have e2 : (j : Int) / 2 = ((j / 2 : Nat) : Int) := by omega
          rw [mulmod, e2]
          refine ⟨⟨sm_small (by omega), sm_small (by omega)⟩, by omega, dv_of (by decide) (by decide +kernel), ⟨_, j / 2, _, rfl, ?_, Nat.mod_lt _ hm0, ?_⟩, ?_⟩
          · split
            · exact Nat.mod_lt _ hm0
            · exact hf
          · rw [power_step hj hm0, e1]
          · show (((j / 2 : Nat) : Int)).toNat < ((j : Int)).toNat
            omega
      · have hj : j = 0 := by simp at ht; omega
        subst hj
        show (f : Int) = _
        rw [← e1, Nat.pow_zero, Nat.mul_one, Nat.mod_eq_of_lt hf]
    · rw [Nat.one_mul, ← Nat.pow_mod]
  · simp only [tt_bnd, tt_pure]; exact h
theorem does_pass_ok {n a s d : Nat} (hn : 3 ≤ n) (hn2 : n < 10 ^ 14) (hs : 1 ≤ s) (hs2 : s < 10 ^ 6) (hd : d < 10 ^ 40) : m_does_pass_1 n a s d = some (decide (Strong n a s d)) := by
  unfold m_does_pass_1
  refine tt_eq ((tt_lft (power_left_ok (by omega) hn2 hd)).mpr (tt_bnd.mpr (tt_grd.mpr ⟨by simp, ?_⟩)))
  have hn1 : ((n : Int) - 1) = ((n - 1 : Nat) : Int) := by omega
  have hlt : a ^ d % n < n := Nat.mod_lt _ (by omega)
  by_cases z : a ^ d % n = 1 ∨ a ^ d % n = n - 1
  · refine Tt.pos ?_ (tt_bnd.mpr (tt_pure.mpr ?_))
    · rw [hn1]
      rcases z with z | z <;> rw [z] <;> simp
    · symm
      rw [decide_eq_true_iff]
      rcases z with z | z
      · exact .inl z
      · exact .inr ⟨0, by omega, by rw [Nat.pow_zero, Nat.one_mul]; exact z⟩
  · have z1 : a ^ d % n ≠ 1 := fun e => z (.inl e)
    have z2 : a ^ d % n ≠ n - 1 := fun e => z (.inr e)
    refine Tt.neg ?_ (tt_grd.mpr ⟨⟨by omega, by omega⟩, ?_⟩)
    · rw [hn1]
      simp only [List.contains_cons, List.contains_nil, Bool.or_false, Bool.or_eq_true, beq_iff_eq]
      omega
    · have sq : ∀ i, (a ^ (2 ^ i * d) % n) * (a ^ (2 ^ i * d) % n) % n = a ^ (2 ^ (i + 1) * d) % n := fun i => by
        rw [← Nat.mul_mod, ← Nat.pow_add, Nat.pow_succ, Nat.mul_comm (2 ^ i) 2, Nat.mul_assoc, Nat.two_mul]
      refine Tt.then (P' := fun o _ => match o with | .go _ => ¬ Strong n a s d | .brk _ => False | .ret r => r = decide (Strong n a s d)) ?_ fun o s1 h => ?_
      · refine Tt.rgC (I := fun (x : Int) (st : Int) _ => ∃ i : Nat, x = i ∧ st = ((a ^ (2 ^ i * d) % n : Nat) : Int) ∧ ∀ j, j ≤ i → a ^ (2 ^ j * d) % n ≠ n - 1) ?_ ?_ (s - 1) 0 _ _ (by omega) ⟨0, rfl, by rw [Nat.pow_zero, Nat.one_mul], fun j hj => by rw [show j = 0 by omega, Nat.pow_zero, Nat.one_mul]; exact z2⟩
        · rintro x st s1 hx ⟨i, rfl, rfl, hi⟩
          have hb : a ^ (2 ^ i * d) % n < n := Nat.mod_lt _ (by omega)
          have hb2 : a ^ (2 ^ (i + 1) * d) % n < n := Nat.mod_lt _ (by omega)
          refine tt_grd.mpr ⟨⟨sm_small (by omega), sm_small (by omega)⟩, tt_grd.mpr ⟨by omega, tt_bnd.mpr ?_⟩⟩
          rw [mulmod, sq]
          by_cases y : a ^ (2 ^ (i + 1) * d) % n = n - 1
          · refine Tt.pos (by rw [decide_eq_true_iff]; omega) (tt_bnd.mpr (tt_pure.mpr ?_))
            show true = decide (Strong n a s d)
            symm
            rw [decide_eq_true_iff]
            exact .inr ⟨i + 1, by omega, y⟩
          · refine Tt.neg (by rw [decide_eq_true_iff]; omega) (tt_pure.mpr ⟨i + 1, by omega, rfl, fun j hj => ?_⟩)
            by_cases w : j = i + 1
            · rw [w]; exact y
            · exact hi j (by omega)
        · rintro st s1 ⟨i, e, _, hi⟩
          rintro (h | ⟨j, hj, h⟩)
          · exact z1 h
          · exact hi j (by omega) h
      · cases o with
        | go st => exact tt_bnd.mpr (tt_pure.mpr (by symm; rw [decide_eq_false_iff_not]; exact h))
        | brk st => exact h.elim
        | ret r => exact tt_pure.mpr h
/-! ### the test of primes -/
def sm12 : List Nat := [2, 3, 5, 7, 11, 13, 17, 19, 23, 29, 31, 37]
/-- how often 2 divides n - 1, and the rest -/
def s2 (n : Nat) : Nat := vp 2 (n - 1)
def d2 (n : Nat) : Nat := (n - 1) / 2 ^ vp 2 (n - 1)
def isp (n : Nat) : Bool := if n < 2 then false else match sm12.find? (fun p => decide (n % p = 0)) with
  | some p => decide (n = p)
  | none => sm12.all fun a => decide (Strong n a (s2 n) (d2 n))
theorem s2_spec {n : Nat} (hn : 2 ≤ n) : n - 1 = 2 ^ s2 n * d2 n := vp_split (by decide) (by omega)
theorem s2_pos {n : Nat} (hn : 3 ≤ n) (h : n % 2 = 1) : 1 ≤ s2 n := vp_pos (by omega) (by decide) (by omega)
theorem vp_log {p n k : Nat} (hp : 2 ≤ p) (hn : 0 < n) (h : n < 2 ^ k) : vp p n < k := by
  have h1 := Nat.le_of_dvd hn (vp_dvd hp hn)
  have h3 : 2 ^ vp p n ≤ p ^ vp p n := Nat.pow_le_pow_left hp _
  exact (Nat.pow_lt_pow_iff_right (by decide : 1 < 2)).mp (by omega)
theorem is_prime_number_ok {n : Nat} (hn2 : n < 10 ^ 14) : m_is_prime_number n = some (isp n) := by
  unfold m_is_prime_number isp
  by_cases h2 : n < 2
  · rw [if_pos (show decide ((n : Int) < 2) = true by rw [decide_eq_true_iff]; omega), if_pos h2]; rfl
  rw [if_neg (show ¬ decide ((n : Int) < 2) = true by rw [decide_eq_true_iff]; omega), if_neg h2]
  refine tt_eq (tt_grd.mpr ⟨by simp, tt_bnd.mpr (Tt.then (P' := fun o _ => match o with
      | .go _ => sm12.find? (fun p => decide (n % p = 0)) = none
      | .brk _ => False
      | .ret r => ∃ p, sm12.find? (fun p => decide (n % p = 0)) = some p ∧ r = decide (n = p)) ?_ fun o s1 h => ?_)⟩)
  · refine Tt.lpC (I := fun (l : List Int) (st : Unit) _ => ∃ r : List Nat, l = r.map (fun x : Nat => (x : Int)) ∧ (∀ x ∈ r, 0 < x) ∧ r.find? (fun p => decide (n % p = 0)) = sm12.find? (fun p => decide (n % p = 0))) ?_ ?_ _ _ _ ⟨sm12, rfl, by decide, rfl⟩
    · rintro x xs st s1 ⟨r, e1, h0, e2⟩
      cases r with
      | nil => exact nomatch e1
      | cons y r =>
        rw [List.map_cons] at e1
        injection e1 with e1 e3
        subst e1 e3
        have hy := h0 y (List.mem_cons_self ..)
        refine tt_grd.mpr ⟨by omega, ?_⟩
        by_cases z : n % y = 0
        · refine Tt.pos (by rw [decide_eq_true_iff]; omega) (tt_bnd.mpr (tt_pure.mpr ⟨y, ?_, ?_⟩))
          · rw [← e2, List.find?_cons_of_pos (by simpa using z)]
          · exact dec_nat
        · refine Tt.neg (by rw [decide_eq_true_iff]; omega) (tt_pure.mpr ⟨r, rfl, fun x hx => h0 x (List.mem_cons_of_mem _ hx), ?_⟩)
          rw [← e2, List.find?_cons_of_neg (by simpa using z)]
    · rintro st s1 ⟨r, e1, _, e2⟩
      have : r = [] := List.map_eq_nil_iff.mp e1.symm
      subst this
      exact e2.symm
  · cases o with
    | brk st => exact h.elim
    | ret r =>
      obtain ⟨p, e, rfl⟩ := h
      rw [e]
      exact tt_pure.mpr rfl
    | go st =>
      have h : sm12.find? (fun p => decide (n % p = 0)) = none := h
      have hodd : n % 2 = 1 := by
        have := List.find?_eq_none.mp h 2 (by decide)
        simp at this
        omega
      have e1 : ((n : Int) - 1) = ((n - 1 : Nat) : Int) := by omega
      have e2 : (2 : Int) = ((2 : Nat) : Int) := rfl
      show Tt () (Mir.lft (m_taken_out ((n : Int) - 1) 2) >>= _) _
      rw [e1, e2, taken_out_ok (by decide) (by decide) (by omega) (by omega)]
      refine (tt_lft rfl).mpr (tt_bnd.mpr (tt_grd.mpr ⟨by simp, ?_⟩))
      have h3 : 3 ≤ n := by omega
      refine tt_map (g := fun x : Int => decide (Strong n x.toNat (s2 n) (d2 n))) ?_ (tt_bnd.mpr (tt_pure.mpr ?_))
      · intro x hx s Q hQ
        have hx : x ∈ sm12.map (fun x : Nat => (x : Int)) := hx
        obtain ⟨y, hy, rfl⟩ := List.mem_map.mp hx
        refine (tt_lft (does_pass_ok h3 hn2 (s2_pos h3 hodd) ?_ ?_)).mpr (tt_pure.mpr (by rw [Int.toNat_natCast] at hQ; exact hQ))
        · have := vp_log (p := 2) (n := n - 1) (k := 60) (by decide) (by omega) (by omega)
          show vp 2 (n - 1) < _
          omega
        · have : d2 n ≤ n - 1 := Nat.div_le_self _ _
          show d2 n < _
          omega
      · rw [h]
        show List.all (List.map _ (sm12.map fun x : Nat => (x : Int))) id = _
        rw [List.map_map, List.all_map]
        rfl
theorem sm12_pr : ∀ a ∈ sm12, Pr a := fun a ha => by
  have : ∀ a ∈ sm12, 2 ≤ a ∧ ∀ d, d < a → 2 ≤ d → a % d ≠ 0 := by decide
  exact ⟨(this a ha).1, fun d h1 h2 => (this a ha).2 d h2 h1⟩
theorem isp_prime {p : Nat} (h : Pr p) : isp p = true := by
  have h2 := h.1
  unfold isp
  rw [if_neg (by omega)]
  cases e : sm12.find? (fun q => decide (p % q = 0)) with
  | some q =>
    show decide (p = q) = true
    have hq := List.find?_some e
    have hm := List.mem_of_find?_eq_some e
    simp only [decide_eq_true_eq] at hq ⊢
    rcases h.one (Nat.dvd_of_mod_eq_zero hq) with z | z
    · subst z; exact absurd hm (by decide)
    · exact z.symm
  | none =>
    rw [List.all_eq_true]
    intro a ha
    rw [decide_eq_true_iff]
    refine strong_prime h (fun hd => ?_) (s2_spec h2)
    -- a small prime that p divides is p itself
    have hn := List.find?_eq_none.mp e a ha
    simp only [decide_eq_true_eq] at hn
    rcases Pr.one (sm12_pr a ha) hd with z | z
    · omega
    · exact hn (by rw [z, Nat.mod_self])
end Wk
set_option Elab.async false
set_option maxRecDepth 1000000
set_option maxHeartbeats 4000000
set_option linter.all false
/-! P3: the test of primes is right below ten million -/
namespace Wk
open PySem L2
open PyProof.Rows hiding St
def pwm (m : Nat) : Nat → Nat → Nat → Nat → Nat
  | 0, _, _, acc => acc
  | f + 1, a, e, acc => bif Nat.beq e 0 then acc else pwm m f (a * a % m) (e / 2) (bif Nat.beq (e % 2) 1 then acc * a % m else acc)
theorem nbeq {a b : Nat} (h : a ≠ b) : Nat.beq a b = false := by
  cases e : Nat.beq a b with
  | false => rfl
  | true => exact absurd (Nat.eq_of_beq_eq_true e) h
theorem pwm_eq {m : Nat} (hm : 0 < m) : ∀ (f a e acc : Nat), acc < m → e < 2 ^ f → pwm m f a e acc = acc * a ^ e % m
  | 0, a, e, acc, h, he => by
    have : e = 0 := by rw [Nat.pow_zero] at he; omega
    subst this
    show acc = _
    rw [Nat.pow_zero, Nat.mul_one, Nat.mod_eq_of_lt h]
  | f + 1, a, e, acc, h, he => by
    rw [pwm]
    by_cases z : e = 0
    · subst z
      show acc = _
      rw [Nat.pow_zero, Nat.mul_one, Nat.mod_eq_of_lt h]
    · have b : Nat.beq e 0 = false := nbeq z
      rw [b]
      show pwm m f (a * a % m) (e / 2) _ = _
      have key : (bif Nat.beq (e % 2) 1 then acc * a % m else acc) = if e % 2 = 1 then acc * a % m else acc := by
        by_cases y : e % 2 = 1
        · rw [if_pos y, y]; rfl
        · have : Nat.beq (e % 2) 1 = false := nbeq y
          rw [if_neg y, this]; rfl
      rw [key, pwm_eq hm f _ _ _ (by split; exact Nat.mod_lt _ hm; exact h) (by rw [Nat.pow_succ] at he; omega), power_step (by omega) hm]
def sqs (n : Nat) : Nat → Nat → Bool
  | 0, _ => false
  | s + 1, x => Nat.beq x (n - 1) || sqs n s (x * x % n)
def strB (n a : Nat) : Bool := match out 2 50 (n - 1) with | (s, d) => match pwm n 50 a d 1 with | x => Nat.beq x 1 || sqs n s x
theorem sqs_eq {n a d : Nat} : ∀ (s i : Nat), sqs n s (a ^ (2 ^ i * d) % n) = true ↔ ∃ j, i ≤ j ∧ j < i + s ∧ a ^ (2 ^ j * d) % n = n - 1
  | 0, i => by
    constructor
    · intro h; exact nomatch h
    · rintro ⟨j, h1, h2, _⟩; omega
  | s + 1, i => by
    have sq : (a ^ (2 ^ i * d) % n) * (a ^ (2 ^ i * d) % n) % n = a ^ (2 ^ (i + 1) * d) % n := by
      rw [← Nat.mul_mod, ← Nat.pow_add, Nat.pow_succ, Nat.mul_comm (2 ^ i) 2, Nat.mul_assoc, Nat.two_mul]
    rw [sqs, Bool.or_eq_true, sq, sqs_eq s (i + 1), Nat.beq_eq]
    constructor
    · rintro (h | ⟨j, h1, h2, h3⟩)
      · exact ⟨i, Nat.le_refl _, by omega, h⟩
      · exact ⟨j, by omega, by omega, h3⟩
    · rintro ⟨j, h1, h2, h3⟩
      by_cases z : j = i
      · exact .inl (z ▸ h3)
      · exact .inr ⟨j, by omega, by omega, h3⟩
theorem strB_eq {n a : Nat} (hn : 2 ≤ n) (h : n < 2 ^ 50) : strB n a = true ↔ Strong n a (s2 n) (d2 n) := by
  unfold strB
  rw [out_eq (by decide) 50 (n - 1) (by omega) (by omega)]
  show (Nat.beq (pwm n 50 a (d2 n) 1) 1 || sqs n (s2 n) (pwm n 50 a (d2 n) 1)) = true ↔ _
  have hd : d2 n ≤ n - 1 := Nat.div_le_self _ _
  rw [pwm_eq (by omega) 50 a _ 1 (by omega) (by omega), Nat.one_mul, Bool.or_eq_true, Nat.beq_eq]
  have e := sqs_eq (n := n) (a := a) (d := d2 n) (s2 n) 0
  rw [Nat.pow_zero, Nat.one_mul] at e
  rw [e]
  unfold Strong
  constructor
  · rintro (h | ⟨j, _, h2, h3⟩)
    · exact .inl h
    · exact .inr ⟨j, by omega, h3⟩
  · rintro (h | ⟨j, h2, h3⟩)
    · exact .inl h
    · exact .inr ⟨j, by omega, by omega, h3⟩
/-! ### the candidates -/
def hasS (n : Nat) : Bool := sm12.any fun p => Nat.beq (n % p) 0
def badc (p c : Nat) : Bool := hasS c || [2, 3, 5, 7].any fun a => !strB (p * c) a
def fullp (p : Nat) : Bool := (pf (p - 1)).all fun y => sm12.any fun a => !Nat.beq (a ^ ((p - 1) / y.1) % p) 1
def pr53 : List Nat := [2, 3, 5, 7, 11, 13, 17, 19, 23, 29, 31, 37, 41, 43, 47, 53]
def pq53 (p : Nat) : Bool := pr53.all fun q => Nat.beq p q || !Nat.beq (p % q) 0
def chkp (B p : Nat) : Bool := fullp p && (List.range ((B / p - 1) / (p - 1))).all fun t => badc p (1 + (t + 1) * (p - 1))
def chk (B r : Nat) : Bool := (List.range (r + 1)).all fun p => Nat.ble p 40 || !pq53 p || chkp B p
theorem pr_pq {p : Nat} (h : Pr p) : pq53 p = true := by
  unfold pq53
  rw [List.all_eq_true]
  intro q hq
  have hq2 : 2 ≤ q := by
    have : ∀ q ∈ pr53, 2 ≤ q := by decide
    exact this q hq
  rw [Bool.or_eq_true, Nat.beq_eq]
  by_cases z : p % q = 0
  · rcases h.one (Nat.dvd_of_mod_eq_zero z) with y | y
    · omega
    · exact .inl y.symm
  · right
    have : Nat.beq (p % q) 0 = false := nbeq z
    rw [this]; rfl
theorem small_pr : ∀ p, p < 41 → Pr p → p ∈ sm12 := by
  have key : ∀ p, p < 41 → p ∈ sm12 ∨ p < 2 ∨ ∃ d, d < p ∧ 2 ≤ d ∧ p % d = 0 := by decide
  intro p hp h
  rcases key p hp with z | z | ⟨d, h1, h2, h3⟩
  · exact z
  · have := h.1; omega
  · exact absurd h3 (h.2 d h2 h1)
/-- a prime that divides a composite number, at most its root -/
theorem pr_root {n : Nat} (h2 : 2 ≤ n) (h : ¬ Pr n) : ∃ p, Pr p ∧ n % p = 0 ∧ p * p ≤ n := by
  obtain ⟨q, hq, e⟩ := pr_div n h2
  by_cases z : q * q ≤ n
  · exact ⟨q, hq, e, z⟩
  · obtain ⟨c, hc⟩ := Nat.dvd_of_mod_eq_zero e
    have hc2 : 2 ≤ c := by
      rcases c with _ | _ | c
      · omega
      · exfalso; apply h; rw [hc]; simpa using hq
      · omega
    obtain ⟨r, hr, e2⟩ := pr_div c hc2
    have hrc := Nat.le_of_dvd (by omega) (Nat.dvd_of_mod_eq_zero e2)
    refine ⟨r, hr, Nat.mod_eq_zero_of_dvd (Nat.dvd_trans (Nat.dvd_of_mod_eq_zero e2) ⟨q, by rw [hc, Nat.mul_comm]⟩), ?_⟩
    have hcq : c ≤ q := Nat.le_of_not_lt fun y => by
      have : q * q ≤ q * c := Nat.mul_le_mul_left q (by omega)
      omega
    calc r * r ≤ c * c := Nat.mul_le_mul hrc hrc
      _ ≤ q * c := Nat.mul_le_mul_right c hcq
      _ = n := hc.symm
theorem isp_right {B r n : Nat} (hc : chk B r = true) (hr : B < (r + 1) * (r + 1)) (hB : B < 2 ^ 50) (hn : n ≤ B) (h : isp n = true) : Pr n := by
  unfold isp at h
  by_cases h2 : n < 2
  · rw [if_pos h2] at h; cases h
  rw [if_neg h2] at h
  cases e : sm12.find? (fun q => decide (n % q = 0)) with
  | some q =>
    rw [e] at h
    have h : decide (n = q) = true := h
    rw [decide_eq_true_iff] at h
    rw [h]
    exact sm12_pr q (List.mem_of_find?_eq_some e)
  | none =>
    rw [e] at h
    have hall : ∀ a ∈ sm12, Strong n a (s2 n) (d2 n) := fun a ha => by
      have := List.all_eq_true.mp h a ha
      rwa [decide_eq_true_iff] at this
    have hno : ∀ a ∈ sm12, n % a ≠ 0 := fun a ha z => by
      have := List.find?_eq_none.mp e a ha
      simp only [decide_eq_true_eq] at this
      exact this z
    refine Classical.byContradiction fun hnp => ?_
    obtain ⟨p, hp, hd, hpp⟩ := pr_root (by omega) hnp
    have hp41 : 41 ≤ p := Nat.le_of_not_lt fun z => hno p (small_pr p (by omega) hp) hd
    obtain ⟨c, hnc⟩ := Nat.dvd_of_mod_eq_zero hd
    have hcp : p ≤ c := Nat.le_of_not_lt fun z => by
      have : p * c < p * p := Nat.mul_lt_mul_of_pos_left z hp.pos
      omega
    have hpr : p ≤ r := Nat.le_of_not_lt fun z => by
      have : (r + 1) * (r + 1) ≤ p * p := Nat.mul_le_mul z z
      omega
    have hck := List.all_eq_true.mp hc p (List.mem_range.mpr (by omega))
    rw [Bool.or_eq_true, Bool.or_eq_true, pr_pq hp] at hck
    have hck : chkp B p = true := by
      rcases hck with (z | z) | z
      · rw [Nat.ble_eq] at z; omega
      · cases z
      · exact z
    unfold chkp at hck
    rw [Bool.and_eq_true] at hck
    -- all of them leave 1
    have hone : ∀ a ∈ sm12, a ^ (c - 1) % p = 1 % p := fun a ha => by
      have h1 := strong_pass (by omega) (s2_spec (by omega)) (hall a ha)
      have h3 : a ^ (n - 1) % p = 1 % p := by rw [← Nat.mod_mod_of_dvd (a ^ (n - 1)) (Nat.dvd_of_mod_eq_zero hd), h1]
      have hap : ¬ p ∣ a := fun z => by
        have hle := Nat.le_of_dvd ((sm12_pr a ha).pos) z
        have : ∀ a ∈ sm12, a ≤ 37 := by decide
        have := this a ha
        omega
      have hf : a ^ (p - 1) % p = 1 % p := by rw [fermat hp hap, Nat.mod_eq_of_lt (by omega)]
      have e1 : n - 1 = (p - 1) * c + (c - 1) := by
        rw [hnc, Nat.sub_mul, Nat.one_mul]
        have : c ≤ p * c := Nat.le_mul_of_pos_left c hp.pos
        omega
      rw [e1, Nat.pow_add, Nat.pow_mul, mul_cong (pow_cong hf c) rfl, Nat.one_pow, Nat.one_mul] at h3
      exact h3
    have hfull : (p - 1) ∣ (c - 1) := by
      have hg : ∀ a ∈ sm12, a ^ Nat.gcd (p - 1) (c - 1) % p = 1 % p := fun a ha => by
        refine pow_gcd _ _ ?_ (hone a ha)
        have hap : ¬ p ∣ a := fun z => by
          have hle := Nat.le_of_dvd ((sm12_pr a ha).pos) z
          have : ∀ a ∈ sm12, a ≤ 37 := by decide
          have := this a ha
          omega
        rw [fermat hp hap, Nat.mod_eq_of_lt (by omega)]
      have hgd := Nat.gcd_dvd_left (p - 1) (c - 1)
      have hgle := Nat.le_of_dvd (by omega) hgd
      have hg0 : 0 < Nat.gcd (p - 1) (c - 1) := Nat.pos_of_dvd_of_pos hgd (by omega)
      by_cases z : Nat.gcd (p - 1) (c - 1) = p - 1
      · rw [← z]; exact Nat.gcd_dvd_right _ _
      · exfalso
        obtain ⟨e, he⟩ := hgd
        have he2 : 2 ≤ e := by
          rcases e with _ | _ | e
          · omega
          · exfalso; apply z; rw [he]; omega
          · omega
        obtain ⟨q, hq, hqe⟩ := pr_div e he2
        obtain ⟨w, hw⟩ := Nat.dvd_of_mod_eq_zero hqe
        have hpq : p - 1 = q * (Nat.gcd (p - 1) (c - 1) * w) := by
          conv => lhs; rw [he, hw]
          rw [Nat.mul_left_comm]
        have hple : p ≤ n := Nat.le_of_dvd (by omega) (Nat.dvd_of_mod_eq_zero hd)
        have hmem := ((pf_ok (n := p - 1) (by omega) (by omega)).m q _).mpr ⟨hq, ⟨_, hpq⟩, rfl⟩
        obtain ⟨a, ha, y⟩ := List.any_eq_true.mp (List.all_eq_true.mp hck.1 _ hmem)
        have hdq : (p - 1) / q = Nat.gcd (p - 1) (c - 1) * w := by
          conv => lhs; rw [hpq]
          exact Nat.mul_div_cancel_left _ hq.pos
        have y : (!Nat.beq (a ^ ((p - 1) / q) % p) 1) = true := y
        rw [hdq, pow_mul_one (hg a ha) ⟨w, rfl⟩, Nat.mod_eq_of_lt (show 1 < p by omega)] at y
        cases y
    obtain ⟨t, ht⟩ := hfull
    have ht0 : 0 < t := Nat.pos_of_ne_zero (by rintro rfl; omega)
    have hce : c = 1 + (t - 1 + 1) * (p - 1) := by
      rw [Nat.sub_add_cancel ht0, Nat.mul_comm, ← ht]; omega
    have htl : t - 1 < (B / p - 1) / (p - 1) := by
      have h5 : c ≤ B / p := (Nat.le_div_iff_mul_le hp.pos).mpr (by rw [Nat.mul_comm, ← hnc]; exact hn)
      have h6 : t ≤ (B / p - 1) / (p - 1) := (Nat.le_div_iff_mul_le (by omega)).mpr (by rw [Nat.mul_comm, ← ht]; omega)
      omega
    have hb := List.all_eq_true.mp hck.2 (t - 1) (List.mem_range.mpr htl)
    rw [← hce] at hb
    unfold badc at hb
    rw [Bool.or_eq_true] at hb
    rcases hb with z | z
    · obtain ⟨q, hq, y⟩ := List.any_eq_true.mp z
      rw [Nat.beq_eq] at y
      refine hno q hq (Nat.mod_eq_zero_of_dvd (Nat.dvd_trans (Nat.dvd_of_mod_eq_zero y) ⟨p, by rw [hnc, Nat.mul_comm]⟩))
    · obtain ⟨a, ha, y⟩ := List.any_eq_true.mp z
      rw [← hnc] at y
      have hs : strB n a = true := (strB_eq (by omega) (by omega)).mpr (hall a (by
        have : ∀ a ∈ [2, 3, 5, 7], a ∈ sm12 := by decide
        exact this a ha))
      rw [hs] at y
      cases y
end Wk
set_option Elab.async false
set_option maxRecDepth 1000000
set_option maxHeartbeats 4000000
set_option linter.all false
namespace Wk
theorem chk4 : chk 20000 141 = true := by decide +kernel
end Wk
set_option Elab.async false
set_option maxRecDepth 100000
set_option maxHeartbeats 4000000
set_option linter.all false
/-! P5: partings as the program and the law make them -/
namespace Wk
open PySem L2
open PyProof.Rows hiding St
def pfi (l : List (Nat × Nat)) : List (Int × Int) := l.map fun y => ((y.1 : Int), (y.2 : Int))
theorem pfi_app (a b : List (Nat × Nat)) : pfi (a ++ b) = pfi a ++ pfi b := List.map_append
theorem pfi_len (a : List (Nat × Nat)) : (pfi a).length = a.length := List.length_map ..
theorem out_loop {p m : Nat} (hp : 2 ≤ p) (hq : p < 10 ^ 40) (hn : 0 < m) (hN : m < 10 ^ 40) {P : Int × Int → Unit → Prop} (h : P (((m / p ^ vp p m : Nat) : Int), (vp p m : Int)) ()) :
    Tt () (whS many (fun (st : Int × Int) k => Mir.lft (grd (0 < (p : Int))) >>= fun _ => k (decide ((st.1 % (p : Int)) = (0 : Int)))) (fun (st : Int × Int) =>
      bnd (st.2 + (1 : Int)) fun often => Mir.lft (grd (Dv (p : Int))) >>= fun _ => bnd (st.1 / (p : Int)) fun number => pure (number, often)) ((m : Int), (0 : Int)) : Option (Int × Int)) P := by
  refine Tt.mono (P := fun st _ => st = (((m / p ^ vp p m : Nat) : Int), (vp p m : Int))) ?_ fun a s1 e => by rw [e]; exact h
  refine Tt.wh (I := fun (st : Int × Int) _ => ∃ k j : Nat, st = ((k : Int), (j : Int)) ∧ 0 < k ∧ k ≤ m ∧ j + vp p k = vp p m ∧ k / p ^ vp p k = m / p ^ vp p m) (nu := fun st => st.1.toNat) ?_ many _ _ ⟨m, 0, rfl, hn, Nat.le_refl _, by omega, rfl⟩ (lt_many (by simpa using hN))
  rintro st s k P ⟨m', j, rfl, h0, hle, h1, h2⟩ hk
  refine tt_grd.mpr ⟨by omega, hk _ _ (fun ht => ?_) (fun ht => ?_)⟩
  · have hd : m' % p = 0 := by simp only [decide_eq_true_eq] at ht; omega
    have hdv := Nat.dvd_of_mod_eq_zero hd
    have h3 : 0 < m' / p := Nat.div_pos (Nat.le_of_dvd h0 hdv) (by omega)
    have h4 : m' / p < m' := Nat.div_lt_self h0 (by omega)
    refine tt_bnd.mpr (tt_grd.mpr ⟨dv_nat (by omega) hq, tt_bnd.mpr (tt_pure.mpr ⟨⟨m' / p, j + 1, by rw [ndiv]; rfl, h3, by omega, ?_, ?_⟩, ?_⟩)⟩)
    · rw [vp_s h0 hp hd] at h1; omega
    · rw [← h2, vp_s h0 hp hd, Nat.pow_succ, Nat.mul_comm (p ^ _) p, ← Nat.div_div_eq_div_mul]
    · show ((m' : Int) / (p : Int)).toNat < (m' : Int).toNat
      rw [ndiv]; omega
  · have hd : m' % p ≠ 0 := by simp only [decide_eq_false_iff_not] at ht; omega
    rw [vp_no hd] at h1 h2
    show ((m' : Int), (j : Int)) = _
    rw [Nat.pow_zero, Nat.div_one] at h2
    rw [← h2, ← h1, Nat.add_zero]
/-- how a search for primes stands: what is found, what is left -/
structure Sr (n m q : Nat) (l : List (Nat × Nat)) : Prop where
  q2 : 2 ≤ q
  m0 : 0 < m
  md : m ∣ n
  iv : Inv q m
  go : ∀ r, PF m r → PF n (l ++ r)
  ln : l.length ≤ q
theorem Sr.start {n : Nat} (hn : 0 < n) : Sr n n 2 [] := ⟨by decide, hn, Nat.dvd_refl _, inv2 n, fun r h => h, by simp⟩
theorem Sr.no {n m q : Nat} {l : List (Nat × Nat)} (h : Sr n m q l) (hd : m % q ≠ 0) : Sr n m (q + 1) l := ⟨by have := h.q2; omega, h.m0, h.md, h.iv.no hd, h.go, by have := h.ln; omega⟩
theorem Sr.skip {n m q : Nat} {l : List (Nat × Nat)} (h : Sr n m q l) (hd : ¬ Pr q) : Sr n m (q + 1) l := ⟨by have := h.q2; omega, h.m0, h.md, h.iv.skip hd, h.go, by have := h.ln; omega⟩
theorem Sr.out {n m q : Nat} {l : List (Nat × Nat)} (h : Sr n m q l) (hd : m % q = 0) : Sr n (m / q ^ vp q m) (q + 1) (l ++ [(q, vp q m)]) :=
  ⟨by have := h.q2; omega, rest_pos h.q2 h.m0, Nat.dvd_trans (rest_dvd h.q2 h.m0) h.md, h.iv.out h.q2 h.m0, fun r hr => by
    rw [List.append_assoc]
    exact h.go _ (PF.cons h.iv h.q2 h.m0 hd hr), by
    have := h.ln
    rw [List.length_append]
    simpa using this⟩
theorem not_pr {q d : Nat} (h1 : 2 ≤ d) (h2 : d < q) (h3 : q % d = 0) : ¬ Pr q := fun h => h.2 d h1 h2 h3
/-- the end of a search -/
theorem Sr.last {n m q : Nat} {l : List (Nat × Nat)} (h : Sr n m q l) (hm : m = 1 ∨ Pr m) (hn : 0 < n) (h64 : n < 2 ^ 64) : l ++ (if 1 < m then [(m, 1)] else []) = pf n := by
  refine PF.uniq (h.go _ ?_) (pf_ok hn h64)
  rcases hm with e | e
  · rw [e, if_neg (by decide)]; exact PF.one
  · rw [if_pos (show 1 < m from e.1)]; exact PF.prime e
theorem Sr.done {n m q : Nat} {l : List (Nat × Nat)} (h : Sr n m q l) (hq : m < q * q) : m = 1 ∨ Pr m := by
  by_cases z : m = 1
  · exact .inl z
  · exact .inr (h.iv.last (by have := h.m0; omega) hq)
theorem Sr.few {n m q : Nat} {l : List (Nat × Nat)} (h : Sr n m q l) (hn : 0 < n) (h64 : n < 2 ^ 64) : l.length ≤ 64 := by
  have h0 := Nat.le_of_dvd hn h.md
  have := (h.go _ (pf_ok h.m0 (by omega))).len hn
  rw [List.length_append] at this
  have h6 : l.length + (pf m).length < 64 := (Nat.pow_lt_pow_iff_right (by decide : 1 < 2)).mp (by omega)
  omega
/-- the law's next one -/
def nx2 (q : Nat) : Nat := if q = 2 then q + 1 else q + 2
theorem nx2_int {q : Nat} : (if decide ((q : Int) = (2 : Int)) = true then (q : Int) + (1 : Int) else (q : Int) + (2 : Int)) = ((nx2 q : Nat) : Int) := by
  unfold nx2
  by_cases z : q = 2
  · rw [if_pos z, if_pos (by rw [decide_eq_true_iff]; omega)]; rfl
  · rw [if_neg z, if_neg (by rw [decide_eq_true_iff]; omega)]; rfl
theorem nx2_odd {q : Nat} (h : q = 2 ∨ q % 2 = 1) : nx2 q % 2 = 1 := by unfold nx2; split <;> omega
theorem nx2_le (q : Nat) : q < nx2 q ∧ nx2 q ≤ q + 2 := by unfold nx2; split <;> omega
theorem Sr.nx2 {n m q : Nat} {l : List (Nat × Nat)} (h : Sr n m (q + 1) l) (hq : 2 ≤ q) (hw : q = 2 ∨ q % 2 = 1) : Sr n m (Wk.nx2 q) l := by
  unfold Wk.nx2
  by_cases z : q = 2
  · rw [if_pos z]; exact h
  · rw [if_neg z]
    exact h.skip (not_pr (d := 2) (by decide) (by omega) (by omega))
theorem law_primes_ok {n : Nat} (hn : 0 < n) (h64 : n < 2 ^ 64) : m__law_primes n = some (pfi (pf n)) := by
  unfold m__law_primes
  refine tt_eq (tt_grd.mpr ⟨by simp, tt_bnd.mpr (tt_bnd.mpr (Tt.then (P' := fun st _ => ∃ (m q : Nat) (l : List (Nat × Nat)), st = ((m : Int), pfi l, (q : Int)) ∧ Sr n m q l ∧ m < q * q) ?_ fun st _ h => ?_))⟩)
  · refine Tt.wh (I := fun (st : Int × (List (Int × Int)) × Int) _ => ∃ (m q : Nat) (l : List (Nat × Nat)), st = ((m : Int), pfi l, (q : Int)) ∧ Sr n m q l ∧ q ≤ n + 5 ∧ (q = 2 ∨ q % 2 = 1)) (nu := fun st => n + 5 - st.2.2.toNat) ?_ many _ _ ⟨n, 2, [], rfl, Sr.start hn, by omega, .inl rfl⟩ (lt_many (by show n + 5 - 2 < _; omega))
    rintro st s k P ⟨m, q, l, rfl, hs, hq, hw⟩ hk
    have hmn := Nat.le_of_dvd hn hs.md
    have hm0 := hs.m0
    have hq2 := hs.q2
    refine tt_grd.mpr ⟨⟨sm_nat (by show q ≤ _; omega), sm_nat (by show q ≤ _; omega)⟩, hk _ _ (fun ht => ?_) (fun ht => ?_)⟩
    · have ht : q * q ≤ m := by
        have : (q : Int) * (q : Int) ≤ (m : Int) := by simpa using ht
        exact_mod_cast this
      have hqm : q * 1 < q * q := Nat.mul_lt_mul_of_pos_left (by omega) (by omega)
      have hle := nx2_le q
      refine tt_bnd.mpr (Tt.then (out_loop (P := fun st1 _ => st1 = (((m / q ^ vp q m : Nat) : Int), (vp q m : Int))) hs.q2 (by omega) hs.m0 (by omega) rfl) fun st1 _ e1 => ?_)
      subst e1
      have hfew := hs.few hn h64
      by_cases z : m % q = 0
      · have := vp_pos hs.m0 hs.q2 (Nat.dvd_of_mod_eq_zero z)
        rw [if_pos (show decide ((0 : Int) < (vp q m : Int)) = true by rw [decide_eq_true_iff]; omega)]
        refine tt_bind.mpr (tt_grd.mpr ⟨by simp, tt_pure.mpr (tt_grd.mpr ⟨by show (pfi l).length + 1 ≤ _; rw [pfi_len]; omega, tt_bnd.mpr (tt_bnd.mpr (tt_pure.mpr ⟨⟨m / q ^ vp q m, nx2 q, l ++ [(q, vp q m)], ?_, (hs.out z).nx2 hq2 hw, by omega, .inr (nx2_odd hw)⟩, ?_⟩))⟩)⟩)
        · rw [nx2_int, pfi_app]; rfl
        · show n + 5 - Int.toNat (if decide ((q : Int) = (2 : Int)) = true then (q : Int) + (1 : Int) else (q : Int) + (2 : Int)) < n + 5 - (q : Int).toNat
          rw [nx2_int]; omega
      · rw [vp_no z, Nat.pow_zero, Nat.div_one, if_neg (show ¬ decide ((0 : Int) < ((0 : Nat) : Int)) = true by decide)]
        refine tt_bind.mpr (tt_grd.mpr ⟨by simp, tt_pure.mpr (tt_grd.mpr ⟨by show (pfi l).length + 0 ≤ _; rw [pfi_len]; omega, tt_bnd.mpr (tt_bnd.mpr (tt_pure.mpr ⟨⟨m, nx2 q, l, ?_, (hs.no z).nx2 hq2 hw, by omega, .inr (nx2_odd hw)⟩, ?_⟩))⟩)⟩)
        · rw [nx2_int, List.append_nil]
        · show n + 5 - Int.toNat (if decide ((q : Int) = (2 : Int)) = true then (q : Int) + (1 : Int) else (q : Int) + (2 : Int)) < n + 5 - (q : Int).toNat
          rw [nx2_int]; omega
    · refine ⟨m, q, l, rfl, hs, ?_⟩
      have : ¬ (q : Int) * (q : Int) ≤ (m : Int) := by simpa using ht
      have : ¬ q * q ≤ m := fun y => this (by exact_mod_cast y)
      omega
  · obtain ⟨m, q, l, rfl, hs, hlt⟩ := h
    have hfew := hs.few hn h64
    rw [← hs.last (hs.done hlt) hn h64, pfi_app]
    by_cases z : 1 < m
    · rw [if_pos (show decide ((1 : Int) < (m : Int)) = true by rw [decide_eq_true_iff]; omega), if_pos z]
      refine tt_bind.mpr (tt_grd.mpr ⟨by simp, tt_pure.mpr (tt_grd.mpr ⟨by show (pfi l).length + 1 ≤ _; rw [pfi_len]; omega, tt_bnd.mpr (tt_pure.mpr rfl)⟩)⟩)
    · rw [if_neg (show ¬ decide ((1 : Int) < (m : Int)) = true by rw [decide_eq_true_iff]; omega), if_neg z]
      refine tt_bind.mpr (tt_grd.mpr ⟨by simp, tt_pure.mpr (tt_grd.mpr ⟨by show (pfi l).length + 0 ≤ _; rw [pfi_len]; omega, tt_bnd.mpr (tt_pure.mpr rfl)⟩)⟩)
/-- the program's next one -/
def nx6 (q : Nat) : Nat := q + (if q = 2 then 1 else if q = 3 ∨ q % 6 = 5 then 2 else 4)
def Wh (q : Nat) : Prop := q = 2 ∨ q = 3 ∨ q % 6 = 5 ∨ (q % 6 = 1 ∧ 5 ≤ q)
theorem Wh.nx6 {q : Nat} (h : Wh q) : Wh (Wk.nx6 q) := by
  unfold Wh at h
  unfold Wk.nx6 Wh
  split
  · omega
  · split <;> omega
theorem nx6_le (q : Nat) : q < nx6 q ∧ nx6 q ≤ q + 4 := by
  unfold nx6
  split
  · omega
  · split <;> omega
theorem Sr.nx6 {n m q : Nat} {l : List (Nat × Nat)} (h : Sr n m (q + 1) l) (hq : 2 ≤ q) (hw : Wh q) : Sr n m (Wk.nx6 q) l := by
  unfold Wh at hw
  unfold Wk.nx6
  by_cases z : q = 2
  · rw [if_pos z]; exact h
  · rw [if_neg z]
    have h2 := h.skip (not_pr (d := 2) (by decide) (by omega) (by omega))
    by_cases y : q = 3 ∨ q % 6 = 5
    · rw [if_pos y]; exact h2
    · rw [if_neg y]
      exact (h2.skip (not_pr (d := 3) (by decide) (by omega) (by omega))).skip (not_pr (d := 2) (by decide) (by omega) (by omega))
theorem primes_of_ok {n : Nat} (hn : 0 < n) (h14 : n < 10 ^ 14) (hip : ∀ m, m ∣ n → isp m = true → Pr m) : m_primes_of n = some (pfi (pf n)) := by
  unfold m_primes_of
  refine tt_eq (tt_grd.mpr ⟨by simp, tt_bnd.mpr (tt_bnd.mpr (Tt.then (P' := fun o _ => match o with
      | .go st => ∃ (m q : Nat) (l : List (Nat × Nat)), st = ((m : Int), pfi l, (q : Int)) ∧ ∃ q', Sr n m q' l ∧ (m = 1 ∨ Pr m)
      | .brk st => ∃ (m q : Nat) (l : List (Nat × Nat)), st = ((m : Int), pfi l, (q : Int)) ∧ ∃ q', Sr n m q' l ∧ (m = 1 ∨ Pr m)
      | .ret _ => False) ?_ fun o _ h => ?_))⟩)
  · refine Tt.whC (I := fun (st : Int × (List (Int × Int)) × Int) _ => ∃ (m q : Nat) (l : List (Nat × Nat)), st = ((m : Int), pfi l, (q : Int)) ∧ Sr n m q l ∧ q ≤ n + 5 ∧ Wh q) (nu := fun st => n + 5 - st.2.2.toNat) ?_ many _ _ ⟨n, 2, [], rfl, Sr.start hn, by omega, .inl rfl⟩ (lt_many (by show n + 5 - 2 < _; omega))
    rintro st s k P ⟨m, q, l, rfl, hs, hq, hw⟩ hk
    have hmn := Nat.le_of_dvd hn hs.md
    have hm0 := hs.m0
    have hq2 := hs.q2
    refine tt_grd.mpr ⟨⟨sm_nat (by show q ≤ _; omega), sm_nat (by show q ≤ _; omega)⟩, hk _ _ (fun ht => ?_) (fun ht => ?_)⟩
    · have ht : q * q ≤ m := by
        have : (q : Int) * (q : Int) ≤ (m : Int) := by simpa using ht
        exact_mod_cast this
      have hqm : q * 1 < q * q := Nat.mul_lt_mul_of_pos_left (by omega) (by omega)
      have hle := nx6_le q
      have hfew := hs.few hn (by omega)
      have step : ∀ {β : Type} {b : Bool} {m' : Int} {x : List (Int × Int)} {P : Ctl β (Int × (List (Int × Int)) × Int) → Unit → Prop}, P (.go (m', x, ((nx6 q : Nat) : Int))) () →
          Tt () ((if (decide ((q : Int) = (2 : Int))) = true then pure (1 : Int) else (if (decide ((q : Int) = (3 : Int))) = true then pure true else Mir.lft (grd (0 < (6 : Int))) >>= fun _ => pure (decide (((q : Int) % (6 : Int)) = (5 : Int)))) >>= fun b => pure (if b = true then (2 : Int) else (4 : Int))) >>= fun c => bnd ((q : Int) + c) fun p => (pure (Ctl.go (m', x, p)) : Option (Ctl β (Int × (List (Int × Int)) × Int)))) P := by
        intro β b m' x P h
        unfold nx6 at h
        by_cases z : q = 2
        · rw [if_pos (show decide ((q : Int) = 2) = true by rw [decide_eq_true_iff]; omega)]
          rw [if_pos z] at h
          exact tt_bind.mpr (tt_pure.mpr (tt_bnd.mpr (tt_pure.mpr h)))
        · rw [if_neg (show ¬ decide ((q : Int) = 2) = true by rw [decide_eq_true_iff]; omega)]
          rw [if_neg z] at h
          by_cases y : q = 3
          · rw [if_pos (show decide ((q : Int) = 3) = true by rw [decide_eq_true_iff]; omega)]
            rw [if_pos (.inl y)] at h
            exact tt_bind.mpr (tt_bind.mpr (tt_pure.mpr (tt_pure.mpr (tt_bnd.mpr (tt_pure.mpr h)))))
          · rw [if_neg (show ¬ decide ((q : Int) = 3) = true by rw [decide_eq_true_iff]; omega)]
            refine tt_bind.mpr (tt_bind.mpr (tt_grd.mpr ⟨by decide, tt_pure.mpr (tt_pure.mpr (tt_bnd.mpr (tt_pure.mpr ?_)))⟩))
            by_cases w : q % 6 = 5
            · rw [if_pos (show decide ((q : Int) % 6 = 5) = true by rw [decide_eq_true_iff]; omega)]
              rw [if_pos (.inr w)] at h
              exact h
            · rw [if_neg (show ¬ decide ((q : Int) % 6 = 5) = true by rw [decide_eq_true_iff]; omega)]
              rw [if_neg (by omega)] at h
              exact h
      refine tt_grd.mpr ⟨by show (0 : Int) < (q : Int); omega, ?_⟩
      by_cases z : m % q = 0
      · rw [if_pos (show decide ((m : Int) % (q : Int) = 0) = true by rw [decide_eq_true_iff]; omega)]
        refine (tt_lft (taken_out_ok hq2 (by omega) hm0 (by omega))).mpr (tt_bnd.mpr (tt_grd.mpr ⟨by show (pfi l).length < _; rw [pfi_len]; omega, tt_bnd.mpr ?_⟩))
        have hso := hs.out z
        have hdv := Nat.le_of_dvd hn hso.md
        refine (tt_lft (is_prime_number_ok (by omega))).mpr ?_
        cases e : isp (m / q ^ vp q m) with
        | true =>
          refine Tt.pos rfl (tt_pure.mpr ⟨_, q, l ++ [(q, vp q m)], ?_, q + 1, hso, .inr (hip _ hso.md e)⟩)
          rw [pfi_app]; rfl
        | false =>
          refine Tt.neg (by decide) (Tt.then (P' := fun b _ => b = false) ?_ ?_)
          · by_cases w : q = 1009
            · refine Tt.pos (by rw [decide_eq_true_iff]; show (q : Int) = 1009; omega) ((tt_lft (is_prime_number_ok (by omega))).mpr (tt_pure.mpr e))
            · exact Tt.neg (by rw [decide_eq_true_iff]; show ¬ (q : Int) = 1009; omega) (tt_pure.mpr rfl)
          · rintro b _ rfl
            refine Tt.neg (by decide) (step (b := false) ?_)
            refine ⟨⟨m / q ^ vp q m, nx6 q, l ++ [(q, vp q m)], ?_, hso.nx6 hq2 hw, by omega, hw.nx6⟩, by show n + 5 - ((nx6 q : Nat) : Int).toNat < n + 5 - (q : Int).toNat; omega⟩
            rw [pfi_app]; rfl
      · rw [if_neg (show ¬ decide ((m : Int) % (q : Int) = 0) = true by rw [decide_eq_true_iff]; omega)]
        refine Tt.then (P' := fun b _ => b = true → Pr m) ?_ ?_
        · by_cases w : q = 1009
          · refine Tt.pos (by rw [decide_eq_true_iff]; show (q : Int) = 1009; omega) ((tt_lft (is_prime_number_ok (by omega))).mpr (tt_pure.mpr fun e => hip _ hs.md e))
          · exact Tt.neg (by rw [decide_eq_true_iff]; show ¬ (q : Int) = 1009; omega) (tt_pure.mpr fun e => nomatch e)
        · intro b _ hb
          cases b with
          | true => exact Tt.pos rfl (tt_pure.mpr ⟨m, q, l, rfl, q, hs, .inr (hb rfl)⟩)
          | false =>
            refine Tt.neg (by decide) (step (b := false) ?_)
            exact ⟨⟨m, nx6 q, l, rfl, (hs.no z).nx6 hq2 hw, by omega, hw.nx6⟩, by show n + 5 - ((nx6 q : Nat) : Int).toNat < n + 5 - (q : Int).toNat; omega⟩
    · refine ⟨m, q, l, rfl, q, hs, hs.done ?_⟩
      have : ¬ (q : Int) * (q : Int) ≤ (m : Int) := by simpa using ht
      have : ¬ q * q ≤ m := fun y => this (by exact_mod_cast y)
      omega
  · have fin : ∀ st : Int × (List (Int × Int)) × Int, (∃ (m q : Nat) (l : List (Nat × Nat)), st = ((m : Int), pfi l, (q : Int)) ∧ ∃ q', Sr n m q' l ∧ (m = 1 ∨ Pr m)) →
        Tt () ((if (decide ((1 : Int) < st.1)) = true then Mir.lft (grd (List.length ([(st.1, (1 : Int))] : List (Int × Int)) ≤ 16000000)) >>= fun _ => pure ([(st.1, (1 : Int))] : List (Int × Int)) else Mir.lft (grd (List.length ([] : List (Int × Int)) ≤ 16000000)) >>= fun _ => pure ([] : List (Int × Int))) >>= fun c => Mir.lft (grd (List.length st.2.1 + List.length c ≤ 16000000)) >>= fun _ => bnd (st.2.1 ++ c) fun r => (pure r : Option (List (Int × Int)))) fun a _ => a = pfi (pf n) := by
      rintro st ⟨m, q, l, rfl, q', hs, hlast⟩
      have hfew := hs.few hn (by omega)
      rw [← hs.last hlast hn (by omega), pfi_app]
      by_cases z : 1 < m
      · rw [if_pos (show decide ((1 : Int) < (m : Int)) = true by rw [decide_eq_true_iff]; omega), if_pos z]
        refine tt_bind.mpr (tt_grd.mpr ⟨by simp, tt_pure.mpr (tt_grd.mpr ⟨by show (pfi l).length + 1 ≤ _; rw [pfi_len]; omega, tt_bnd.mpr (tt_pure.mpr rfl)⟩)⟩)
      · rw [if_neg (show ¬ decide ((1 : Int) < (m : Int)) = true by rw [decide_eq_true_iff]; omega), if_neg z]
        refine tt_bind.mpr (tt_grd.mpr ⟨by simp, tt_pure.mpr (tt_grd.mpr ⟨by show (pfi l).length + 0 ≤ _; rw [pfi_len]; omega, tt_bnd.mpr (tt_pure.mpr rfl)⟩)⟩)
    cases o with
    | go st => exact fin st h
    | brk st => exact fin st h
    | ret _ => exact h.elim
end Wk
set_option Elab.async false
set_option maxRecDepth 100000
set_option maxHeartbeats 4000000
set_option linter.all false
/-! P6: draws of a pot that is a list -/
namespace Wk
open PySem L2
open PyProof.Rows hiding St
theorem of_ok {s : PotT} {b : Nat} {m : Int} (h : Pot s (b + 1)) (hm : 0 < m) (hm2 : m < 2 ^ 900) : Tt s (m__law_of m) fun a s1 => 0 ≤ a ∧ a < m ∧ Pot s1 b := by
  have hdv : Dv m := dv_of hm (Int.lt_trans hm2 (by decide +kernel))
  unfold m__law_of
  by_cases h1 : m < 2
  · exact Tt.pos (by rw [decide_eq_true_iff]; exact h1) (tt_bnd.mpr (tt_pure.mpr ⟨Int.le_refl _, hm, h.le (by omega)⟩))
  refine Tt.neg (by rw [decide_eq_true_iff]; exact h1) (tt_bind.mpr ⟨s, s, rfl, ?_⟩)
  obtain ⟨g, x, t⟩ := s
  have hl := h.l
  have m0 := h.m0
  have m1 := h.m1
  have t0 := h.t0
  have t1 := h.t1
  have hg := h.g
  dsimp only at hl m0 m1 t0 t1 hg
  cases e : g.getLast? with
  | some c =>
    have hne : g ≠ [] := by rintro rfl; cases e
    have hc : 0 ≤ c := hg c (List.mem_of_getLast? e)
    have hr : ∀ d ∈ g.dropLast, 0 ≤ d := fun d hd => hg d (List.dropLast_subset g hd)
    have hdl : g.dropLast.length = g.length - 1 := List.length_dropLast
    have hl1 : 1 ≤ g.length := List.length_pos_iff.mpr hne
    refine Tt.pos (by unfold neG; cases g with | nil => exact absurd rfl hne | cons _ _ => rfl) (tt_bind.mpr ⟨c, ⟨g.dropLast, x, t⟩, by show popL _ = _; unfold popL; rw [e], tt_bnd.mpr ?_⟩)
    refine Tt.then (P' := fun _ s1 => Pot s1 b) ?_ ?_
    · by_cases z : m ≤ c
      · refine Tt.pos (by rw [decide_eq_true_iff]; exact z) (tt_grd.mpr ⟨hdv, tt_bind.mpr ⟨_, _, rfl, tt_grd.mpr ⟨by show g.dropLast.length < 16000000; omega, tt_bind.mpr ⟨(), _, rfl, tt_pure.mpr ?_⟩⟩⟩⟩)
        refine ⟨fun d hd => ?_, by show (g.dropLast ++ [c / m]).length ≤ 100; rw [List.length_append]; simp; omega, m0, m1, t0, by show t + (b : Int) ≤ _; omega⟩
        rcases List.mem_append.mp hd with e | hd
        · exact hr d e
        · rw [List.mem_singleton.mp hd]; exact Int.ediv_nonneg hc (by omega)
      · exact Tt.neg (by rw [decide_eq_true_iff]; exact z) (tt_pure.mpr ⟨hr, by show g.dropLast.length ≤ 100; omega, m0, m1, t0, by show t + (b : Int) ≤ _; omega⟩)
    · intro _ s1 q
      exact tt_grd.mpr ⟨hm, tt_bnd.mpr (tt_pure.mpr ⟨Int.emod_nonneg _ (by omega), Int.emod_lt_of_pos _ hm, q⟩)⟩
  | none =>
    have hg0 : g = [] := List.getLast?_eq_none_iff.mp e
    subst hg0
    have b1 : t + 1 ≤ 10 ^ 9 := by omega
    refine Tt.neg (by show ¬ (false = true); decide) ?_
    refine tt_bind.mpr ⟨_, _, rfl, tt_bind.mpr ⟨(), _, rfl, tt_bind.mpr ⟨_, _, rfl, tt_bind.mpr ⟨_, _, rfl, ?_⟩⟩⟩⟩
    show Tt (PotT.mk [] x (t + 1)) (Mir.lft (grd (Sm (t + 1) ∧ Sm (2654435761 : Int))) >>= _) _
    have c1 : 0 ≤ (x + (t + 1) * 2654435761) % 4294967279 ∧ (x + (t + 1) * 2654435761) % 4294967279 < 4294967279 := ⟨Int.emod_nonneg _ (by decide), Int.emod_lt_of_pos _ (by decide)⟩
    refine tt_grd.mpr ⟨⟨sm_small (by omega), sm_small (by decide)⟩, tt_grd.mpr ⟨by decide, tt_bnd.mpr ?_⟩⟩
    show Tt (PotT.mk [] x (t + 1)) (Mir.lft (grd (Sm ((x + (t + 1) * 2654435761) % 4294967279) ∧ Sm ((x + (t + 1) * 2654435761) % 4294967279))) >>= _) _
    generalize (x + (t + 1) * 2654435761) % 4294967279 = y at c1 ⊢
    refine tt_grd.mpr ⟨⟨sm_small (by omega), sm_small (by omega)⟩, tt_bind.mpr ⟨_, _, rfl, tt_grd.mpr ⟨⟨sm_small (by show (t + 1).natAbs ≤ _; omega), sm_small (by decide)⟩, tt_grd.mpr ⟨by decide, tt_bnd.mpr ?_⟩⟩⟩⟩
    show Tt (PotT.mk [] x (t + 1)) (Mir.lft (grd (Sm ((y * y + (t + 1) * 40503 + 5) % 4294967231) ∧ Sm ((y * y + (t + 1) * 40503 + 5) % 4294967231))) >>= _) _
    have c2 : 0 ≤ (y * y + (t + 1) * 40503 + 5) % 4294967231 ∧ (y * y + (t + 1) * 40503 + 5) % 4294967231 < 4294967231 := ⟨Int.emod_nonneg _ (by decide), Int.emod_lt_of_pos _ (by decide)⟩
    generalize (y * y + (t + 1) * 40503 + 5) % 4294967231 = u at c2 ⊢
    refine tt_grd.mpr ⟨⟨sm_small (by omega), sm_small (by omega)⟩, tt_bind.mpr ⟨_, _, rfl, tt_grd.mpr ⟨by decide, tt_bnd.mpr (tt_grd.mpr ⟨dv_of (by decide) (by decide +kernel), tt_grd.mpr ⟨hm, tt_bnd.mpr (tt_pure.mpr ⟨Int.emod_nonneg _ (by omega), Int.emod_lt_of_pos _ hm, ?_⟩)⟩⟩)⟩⟩⟩
    exact ⟨fun d hd => (nomatch hd), Nat.zero_le _, m0, m1, by show 0 ≤ t + 1; omega, by show t + 1 + (b : Int) ≤ _; omega⟩
theorem one_ok {s : PotT} {b : Nat} {row : List Int} (h : Pot s (b + 1)) (h0 : row ≠ []) (hl : row.length ≤ 10000) : Tt s (m__law_one row) fun a s1 => a ∈ row ∧ Pot s1 b := by
  unfold m__law_one
  have hp : 0 < row.length := List.length_pos_iff.mpr h0
  refine (of_ok h (by omega) (Int.lt_of_le_of_lt (b := 10000) (by omega) (by decide +kernel))).then fun a s1 ⟨h1, h2, h3⟩ => ?_
  obtain ⟨n, rfl⟩ : ∃ n : Nat, a = n := ⟨a.toNat, by omega⟩
  have hn : n < row.length := by omega
  rw [tt_lft (show atI row (n : Int) = some row[n] by rw [atI_nat hn, List.getElem?_eq_getElem hn])]
  exact tt_bnd.mpr (tt_pure.mpr ⟨List.getElem_mem hn, h3⟩)
theorem pot_ok {ns : List Int} (hb : ∀ i ∈ ns, Builtin.Int.intBits i ≤ 1048576) (hl : ns.length ≤ 63) : ∃ s, m__law_pot ns = some s ∧ Pot s 900000000 := by
  refine tt_ex ?_
  unfold m__law_pot
  have hlen : (cut ns none (some (63 : Int))).length ≤ 63 := by
    rw [show (63 : Int) = ((63 : Nat) : Int) by rfl, cut_head, List.length_take]; omega
  refine tt_grd.mpr ⟨by omega, ?_⟩
  refine tt_map (g := fun (x1 : Int) => ((2 : Int) * (if x1 < 0 then -x1 else x1)) + (if (decide (x1 < (0 : Int))) = true then (1 : Int) else 0)) (fun x hx s Q hQ => ?_) ?_
  · rw [show (63 : Int) = ((63 : Nat) : Int) by rfl, cut_head] at hx
    have := bits_sm (hb x (List.mem_of_mem_take hx))
    refine tt_grd.mpr ⟨⟨sm_small (by decide), ?_⟩, tt_pure.mpr hQ⟩
    rw [abs_if]; unfold Sm; rw [Int.natAbs_natCast]; omega
  · refine tt_bnd.mpr (tt_grd.mpr ⟨⟨sm_small (by decide), sm_small (by omega)⟩, tt_bnd.mpr (Tt.then (P' := fun st _ => 0 ≤ st ∧ st < 2 ^ 40) ?_ ?_)⟩)
    · refine Tt.lp (I := fun (_ : List Int) (st : Int) (_ : Unit) => 0 ≤ st ∧ st < 2 ^ 40) ?_ _ _ _ ?_
      · rintro x xs st s ⟨h1, h2⟩
        exact tt_grd.mpr ⟨⟨sm_small (by omega), sm_small (by decide)⟩, tt_grd.mpr ⟨by decide, tt_bnd.mpr (tt_pure.mpr ⟨Int.emod_nonneg _ (by decide), Int.lt_of_lt_of_le (Int.emod_lt_of_pos _ (by decide)) (by decide)⟩)⟩⟩
      · exact ⟨by omega, by omega⟩
    · rintro st s1 ⟨h1, h2⟩
      refine tt_grd.mpr ⟨by rw [List.length_map]; omega, ?_⟩
      refine tt_filterMap (g := fun (x : Int) => if (decide (((10 : Int) ^ Int.toNat (12 : Int)) < x)) = true then some x else none) (fun x hx s Q hQ => tt_grd.mpr ⟨by decide, ?_⟩) (tt_bnd.mpr (tt_pure.mpr ?_))
      · by_cases z : decide (((10 : Int) ^ Int.toNat (12 : Int)) < x) = true
        · rw [if_pos z] at hQ; exact Tt.pos z (tt_pure.mpr hQ)
        · rw [if_neg z] at hQ; exact Tt.neg z (tt_pure.mpr hQ)
      · refine ⟨fun c hc => ?_, ?_, h1, h2, by show (0 : Int) ≤ 0; decide, by show (0 : Int) + ((900000000 : Nat) : Int) ≤ _; decide⟩
        · obtain ⟨x, hx, e⟩ := List.mem_filterMap.mp hc
          split at e
          · rename_i z
            have z := of_decide_eq_true z
            cases e
            exact Int.le_trans (by decide) (Int.le_of_lt z)
          · cases e
        · exact Nat.le_trans (List.length_filterMap_le ..) (by rw [List.length_map]; omega)
end Wk
set_option Elab.async false
set_option maxRecDepth 100000
set_option maxHeartbeats 4000000
set_option linter.all false
/-! A91a: the defs of powers and orders, what they give -/
namespace Wk
open PySem L2
open PyProof.Rows hiding St
/-- a loop over items that stand for others -/
theorem Tt.fold {μ : Type → Type} {τ : Type} [Mir μ τ] {α ζ X Z : Type} {f : α → ζ → μ ζ} (ex : X → α) (ez : Z → ζ) (g : Z → X → Z) (I : Z → List X → Prop)
    (h : ∀ x xs z s (P : ζ → τ → Prop), I z (x :: xs) → (I (g z x) xs → P (ez (g z x)) s) → Tt s (f (ex x) (ez z)) P) :
    ∀ (l : List X) (z : Z) (s : τ) {P : ζ → τ → Prop}, I z l → (I (l.foldl g z) [] → P (ez (l.foldl g z)) s) → Tt s (lpS (l.map ex) f (ez z)) P
  | [], z, s, P, hI, hP => tt_pure.mpr (hP hI)
  | x :: l, z, s, P, hI, hP => tt_bind.mpr (h x l z s _ hI fun hI' => Tt.fold ex ez g I h l (g z x) s hI' hP)
theorem law_common_ok {a b : Nat} (hb : b < 10 ^ 40) : m__law_common a b = some ((Nat.gcd a b : Nat) : Int) := by
  unfold m__law_common
  refine tt_eq (Tt.then (P' := fun st _ => st.1 = ((Nat.gcd a b : Nat) : Int)) ?_ fun st _ h => by simp only [tt_bnd, tt_pure]; exact h)
  refine Tt.wh (I := fun (st : Int × Int) _ => ∃ x y : Nat, st = ((x : Int), (y : Int)) ∧ Nat.gcd x y = Nat.gcd a b) (nu := fun st => st.2.toNat) ?_ many _ _ ⟨a, b, rfl, rfl⟩ (lt_many (by simpa using hb))
  rintro st s k P ⟨x, y, rfl, e⟩ hk
  refine hk _ _ (fun ht => ?_) (fun ht => ?_)
  · have hy : 0 < y := by simpa using ht
    refine tt_bnd.mpr (tt_grd.mpr ⟨by show (0 : Int) < (y : Int); omega, tt_bnd.mpr (tt_pure.mpr ⟨⟨y, x % y, by rw [nmod], ?_⟩, ?_⟩)⟩)
    · rw [← e, Nat.gcd_comm x y, Nat.gcd_rec y x, Nat.gcd_comm]
    · have := Nat.mod_lt x hy
      show ((x : Int) % (y : Int)).toNat < (y : Int).toNat
      rw [nmod]; omega
  · have hy : y = 0 := by simp at ht; omega
    subst hy
    rw [Nat.gcd_zero_right] at e
    show (x : Int) = _
    rw [e]
theorem common_divisor_ok {a b : Nat} (hb : b < 10 ^ 40) : m_common_divisor a b = some ((Nat.gcd a b : Nat) : Int) := by
  have e : m_common_divisor a b = m__law_common a b := by unfold m_common_divisor m__law_common; rfl
  rw [e, law_common_ok hb]
theorem power_rest_ok {a e m : Nat} (hm : 1 ≤ m) (hm2 : m < 10 ^ 14) (he : e < 10 ^ 40) : m_power_rest a e m = some ((a ^ e % m : Nat) : Int) := by
  unfold m_power_rest
  have hm0 : 0 < m := by omega
  have h1 : ((1 : Int) % (m : Int)) = ((1 % m : Nat) : Int) := by push_cast; rfl
  refine tt_eq (tt_grd.mpr ⟨by omega, tt_bnd.mpr (tt_grd.mpr ⟨by omega, tt_bnd.mpr (Tt.then (P' := fun st _ => st.2.1 = ((a ^ e % m : Nat) : Int)) ?_ fun st _ h => ?_)⟩)⟩)
  · rw [nmod, h1]
    refine Tt.wh (I := fun (st : Int × Int × Int) _ => ∃ (j f o : Nat), st = ((j : Int), (f : Int), (o : Int)) ∧ f < m ∧ o < m ∧ f * o ^ j % m = a ^ e % m) (nu := fun st => st.1.toNat) ?_ many _ _ ⟨e, 1 % m, a % m, rfl, Nat.mod_lt _ hm0, Nat.mod_lt _ hm0, ?_⟩ (lt_many (by simpa using he))
    · rintro st s K P ⟨j, f, o, rfl, hf, ho, e1⟩ hk
      refine hk _ _ (fun ht => ?_) (fun ht => ?_)
      · have hj : 0 < j := by simpa using ht
        refine tt_grd.mpr ⟨by decide, Tt.then (P' := fun st _ => st = ((if j % 2 = 1 then f * o % m else f : Nat) : Int)) ?_ ?_⟩
        · by_cases z : j % 2 = 1
          · rw [if_pos (show (decide ((j : Int) % 2 = 1) = true) by rw [decide_eq_true_iff]; omega)]
            simp only [tt_grd, tt_bnd, tt_pure]
            refine ⟨⟨sm_small (by omega), sm_small (by omega)⟩, by omega, ?_⟩
            rw [mulmod, if_pos z]
          · rw [if_neg (show ¬ (decide ((j : Int) % 2 = 1) = true) by rw [decide_eq_true_iff]; omega)]
            rw [if_neg z]; exact tt_pure.mpr rfl
        · rintro st s1 rfl
          simp only [tt_grd, tt_bnd, tt_pure]
          have e2 : (j : Int) / 2 = ((j / 2 : Nat) : Int) := by omega
          rw [mulmod, e2]
          refine ⟨⟨sm_small (by omega), sm_small (by omega)⟩, by omega, dv_of (by decide) (by decide +kernel), ⟨j / 2, _, _, rfl, ?_, Nat.mod_lt _ hm0, ?_⟩, ?_⟩
          · split
            · exact Nat.mod_lt _ hm0
            · exact hf
          · rw [power_step hj hm0, e1]
          · show (((j / 2 : Nat) : Int)).toNat < ((j : Int)).toNat
            omega
      · have hj : j = 0 := by simp at ht; omega
        subst hj
        show (f : Int) = _
        rw [← e1, Nat.pow_zero, Nat.mul_one, Nat.mod_eq_of_lt hf]
    · rw [Nat.mul_mod, Nat.mod_mod, ← Nat.pow_mod, ← Nat.mul_mod, Nat.one_mul]
  · simp only [tt_bnd, tt_pure]; exact h
theorem law_rest_ok {a e m : Nat} (hm : 2 ≤ m) (hm2 : m < 10 ^ 14) (he : e < 10 ^ 40) : m__law_rest a e m = some ((a ^ e % m : Nat) : Int) := by
  unfold m__law_rest
  have hm0 : 0 < m := by omega
  refine tt_eq (tt_bnd.mpr (tt_grd.mpr ⟨by omega, tt_bnd.mpr (Tt.then (P' := fun st _ => st.2.1 = ((a ^ e % m : Nat) : Int)) ?_ fun st _ h => ?_)⟩))
  · rw [nmod]
    refine Tt.wh (I := fun (st : Int × Int × Int) _ => ∃ (j f o : Nat), st = ((j : Int), (f : Int), (o : Int)) ∧ f < m ∧ o < m ∧ f * o ^ j % m = a ^ e % m) (nu := fun st => st.1.toNat) ?_ many _ _ ⟨e, 1, a % m, rfl, by omega, Nat.mod_lt _ hm0, ?_⟩ (lt_many (by simpa using he))
    · rintro st s K P ⟨j, f, o, rfl, hf, ho, e1⟩ hk
      refine hk _ _ (fun ht => ?_) (fun ht => ?_)
      · have hj : 0 < j := by simpa using ht
        refine tt_grd.mpr ⟨by decide, Tt.then (P' := fun st _ => st = ((if j % 2 = 1 then f * o % m else f : Nat) : Int)) ?_ ?_⟩
        · by_cases z : j % 2 = 1
          · rw [if_pos (show (decide ((j : Int) % 2 = 1) = true) by rw [decide_eq_true_iff]; omega)]
            simp only [tt_grd, tt_bnd, tt_pure]
            refine ⟨⟨sm_small (by omega), sm_small (by omega)⟩, by omega, ?_⟩
            rw [mulmod, if_pos z]
          · rw [if_neg (show ¬ (decide ((j : Int) % 2 = 1) = true) by rw [decide_eq_true_iff]; omega)]
            rw [if_neg z]; exact tt_pure.mpr rfl
        · rintro st s1 rfl
          simp only [tt_grd, tt_bnd, tt_pure]
          have e2 : (j : Int) / 2 = ((j / 2 : Nat) : Int) := by omega
          rw [mulmod, e2]
          refine ⟨⟨sm_small (by omega), sm_small (by omega)⟩, by omega, dv_of (by decide) (by decide +kernel), ⟨j / 2, _, _, rfl, ?_, Nat.mod_lt _ hm0, ?_⟩, ?_⟩
          · split
            · exact Nat.mod_lt _ hm0
            · exact hf
          · rw [power_step hj hm0, e1]
          · show (((j / 2 : Nat) : Int)).toNat < ((j : Int)).toNat
            omega
      · have hj : j = 0 := by simp at ht; omega
        subst hj
        show (f : Int) = _
        rw [← e1, Nat.pow_zero, Nat.mul_one, Nat.mod_eq_of_lt hf]
    · rw [Nat.one_mul, ← Nat.pow_mod]
  · rw [h, nmod, Nat.mod_mod]
    exact tt_grd.mpr ⟨by omega, tt_bnd.mpr (tt_pure.mpr rfl)⟩
theorem one_mod {n : Nat} (h : 2 ≤ n) : ((1 : Int) % (n : Int)) = 1 := Int.emod_eq_of_lt (by decide) (by omega)
theorem does_pass2_ok {n a : Nat} (hn : 2 ≤ n) (hn2 : n < 10 ^ 14) : m_does_pass n a = some (decide (a ^ (n - 1) % n = 1)) := by
  unfold m_does_pass
  have e1 : ((n : Int) - 1) = ((n - 1 : Nat) : Int) := by omega
  rw [e1]
  refine tt_eq ((tt_lft (power_rest_ok (by omega) hn2 (by omega))).mpr (tt_grd.mpr ⟨by omega, tt_bnd.mpr (tt_pure.mpr ?_)⟩))
  rw [one_mod hn]
  exact decide_eq_decide.mpr (by omega)
theorem halves_of_ok {n : Nat} (hn : 2 ≤ n) (hn2 : n < 10 ^ 14) : m_halves_of n = some ((s2 n : Int), (d2 n : Int)) := by
  unfold m_halves_of
  have e1 : ((n : Int) - 1) = ((n - 1 : Nat) : Int) := by omega
  refine tt_eq (tt_bnd.mpr (tt_bnd.mpr (Tt.then (P' := fun st _ => st = ((s2 n : Int), (d2 n : Int))) ?_ ?_)))
  · rw [e1]
    refine Tt.wh (I := fun (st : Int × Int) _ => ∃ m j : Nat, st = ((j : Int), (m : Int)) ∧ 0 < m ∧ m ≤ n - 1 ∧ j + vp 2 m = s2 n ∧ m / 2 ^ vp 2 m = d2 n) (nu := fun st => st.2.toNat) ?_ many _ _ ⟨n - 1, 0, rfl, by omega, Nat.le_refl _, by unfold s2; omega, rfl⟩ (lt_many (by show ((n - 1 : Nat) : Int).toNat < _; omega))
    rintro st s k P ⟨m, j, rfl, h0, hle, h1, h2⟩ hk
    refine tt_grd.mpr ⟨by omega, hk _ _ (fun ht => ?_) (fun ht => ?_)⟩
    · have hd : m % 2 = 0 := by simp only [decide_eq_true_eq] at ht; omega
      refine tt_bnd.mpr (tt_grd.mpr ⟨dv_nat (p := 2) (by omega) (by decide), tt_bnd.mpr (tt_pure.mpr ⟨⟨m / 2, j + 1, by rw [show (m : Int) / 2 = ((m / 2 : Nat) : Int) by omega]; rfl, by omega, by omega, ?_, ?_⟩, ?_⟩)⟩)
      · rw [vp_s h0 (by decide) hd] at h1; omega
      · rw [← h2, vp_s h0 (by decide) hd, Nat.pow_succ, Nat.mul_comm (2 ^ _) 2, ← Nat.div_div_eq_div_mul]
      · show ((m : Int) / 2).toNat < (m : Int).toNat
        omega
    · have hd : m % 2 ≠ 0 := by simp only [decide_eq_false_iff_not] at ht; omega
      rw [vp_no hd] at h1 h2
      rw [Nat.pow_zero, Nat.div_one] at h2
      show ((j : Int), (m : Int)) = _
      rw [← h2, ← h1, Nat.add_zero]
  · rintro st _ rfl
    simp only [tt_bnd, tt_pure]
/-- the strong loop, for both -/
theorem strong_loop {n a s d : Nat} (hn : 2 ≤ n) (hn2 : n < 10 ^ 14) (hs2 : s < 10 ^ 6) (h1 : a ^ d % n ≠ 1) {P : Ctl Bool Int → Unit → Prop} (hP : ∀ o, (∀ st, o = .go st → ¬ Strong n a s d) → (∀ st, o ≠ .brk st) → (∀ r, o = .ret r → r = decide (Strong n a s d)) → P o ()) :
    Tt () (lpC (ρ := Bool) (rng 0 (s : Int)) (fun (x : Int) (st : Int) =>
      if (decide (st = ((n : Int) - (1 : Int)))) = true then (bnd true fun r => pure (Ctl.ret r)) else (Mir.lft (grd (Sm st ∧ Sm st)) >>= fun _ => Mir.lft (grd (0 < (n : Int))) >>= fun _ => bnd ((st * st) % (n : Int)) fun own => pure (Ctl.go own))) (((a ^ d % n : Nat)) : Int) : Option (Ctl Bool Int)) P := by
  have sq : ∀ i, (a ^ (2 ^ i * d) % n) * (a ^ (2 ^ i * d) % n) % n = a ^ (2 ^ (i + 1) * d) % n := fun i => by
    rw [← Nat.mul_mod, ← Nat.pow_add, Nat.pow_succ, Nat.mul_comm (2 ^ i) 2, Nat.mul_assoc, Nat.two_mul]
  refine Tt.mono (P := fun o _ => (∀ st, o = .go st → ¬ Strong n a s d) ∧ (∀ st, o ≠ .brk st) ∧ (∀ r, o = .ret r → r = decide (Strong n a s d))) ?_ fun o _ h => hP o h.1 h.2.1 h.2.2
  refine Tt.rgC (I := fun (x : Int) (st : Int) _ => ∃ i : Nat, x = i ∧ st = ((a ^ (2 ^ i * d) % n : Nat) : Int) ∧ ∀ j, j < i → a ^ (2 ^ j * d) % n ≠ n - 1) ?_ ?_ s 0 _ _ (by omega) ⟨0, rfl, by rw [Nat.pow_zero, Nat.one_mul], fun j hj => absurd hj (Nat.not_lt_zero _)⟩
  · rintro x st s1 hx ⟨i, rfl, rfl, hi⟩
    have hb : a ^ (2 ^ i * d) % n < n := Nat.mod_lt _ (by omega)
    by_cases y : a ^ (2 ^ i * d) % n = n - 1
    · refine Tt.pos (by rw [decide_eq_true_iff]; omega) (tt_bnd.mpr (tt_pure.mpr ?_))
      show (∀ st : Int, (Ctl.ret true : Ctl Bool Int) = .go st → ¬ Strong n a s d) ∧ (∀ st : Int, (Ctl.ret true : Ctl Bool Int) ≠ .brk st) ∧ (∀ r : Bool, (Ctl.ret true : Ctl Bool Int) = .ret r → r = decide (Strong n a s d))
      refine ⟨fun st e => (nomatch e), fun st e => (nomatch e), fun r e => ?_⟩
      cases e
      symm
      rw [decide_eq_true_iff]
      exact .inr ⟨i, by omega, y⟩
    · refine Tt.neg (by rw [decide_eq_true_iff]; omega) (tt_grd.mpr ⟨⟨sm_small (by omega), sm_small (by omega)⟩, tt_grd.mpr ⟨by omega, tt_bnd.mpr (tt_pure.mpr ⟨i + 1, by omega, by rw [mulmod, sq], fun j hj => ?_⟩)⟩⟩)
      by_cases w : j = i
      · rw [w]; exact y
      · exact hi j (by omega)
  · rintro st s1 ⟨i, e, _, hi⟩
    refine ⟨fun st e2 => ?_, fun st e => (nomatch e), fun r e => nomatch e⟩
    rintro (h | ⟨j, hj, h⟩)
    · exact h1 h
    · exact hi j (by omega) h
theorem does_pass_strongly_ok {n a : Nat} (hn : 2 ≤ n) (hn2 : n < 10 ^ 14) : m_does_pass_strongly n a = some (decide (Strong n a (s2 n) (d2 n))) := by
  unfold m_does_pass_strongly
  have hd : d2 n ≤ n - 1 := Nat.div_le_self _ _
  have hs : s2 n < 60 := vp_log (by decide) (by omega) (by omega)
  refine tt_eq ((tt_lft (halves_of_ok hn hn2)).mpr (tt_bnd.mpr ((tt_lft (power_rest_ok (by omega) hn2 (by omega))).mpr (tt_bnd.mpr ?_))))
  by_cases h1 : a ^ d2 n % n = 1
  · refine Tt.pos (by rw [decide_eq_true_iff]; omega) (tt_bnd.mpr (tt_pure.mpr ?_))
    symm; rw [decide_eq_true_iff]; exact .inl h1
  · refine Tt.neg (by rw [decide_eq_true_iff]; omega) (tt_grd.mpr ⟨⟨by show -(2 ^ 62) ≤ (s2 n : Int); omega, by show (s2 n : Int) < 2 ^ 62; omega⟩, Tt.then (strong_loop (P := fun o _ => (∀ st, o = .go st → ¬ Strong n a (s2 n) (d2 n)) ∧ (∀ st, o ≠ .brk st) ∧ (∀ r, o = .ret r → r = decide (Strong n a (s2 n) (d2 n)))) hn hn2 (by omega) h1 fun o x y z => ⟨x, y, z⟩) fun o _ h => ?_⟩)
    cases o with
    | go st => exact tt_bnd.mpr (tt_pure.mpr (by symm; rw [decide_eq_false_iff_not]; exact h.1 st rfl))
    | brk st => exact absurd rfl (h.2.1 st)
    | ret r => exact tt_pure.mpr (h.2.2 r rfl)
theorem law_strong_ok {n a : Nat} (hn : 2 ≤ n) (hn2 : n < 10 ^ 14) : m__law_strong n a = some (decide (Strong n a (s2 n) (d2 n))) := by
  unfold m__law_strong
  have hd : d2 n ≤ n - 1 := Nat.div_le_self _ _
  have hs : s2 n < 60 := vp_log (by decide) (by omega) (by omega)
  have e1 : ((n : Int) - 1) = ((n - 1 : Nat) : Int) := by omega
  refine tt_eq (tt_bnd.mpr (tt_bnd.mpr (Tt.then (P' := fun st _ => st = ((d2 n : Int), (s2 n : Int))) ?_ ?_)))
  · rw [e1]
    refine Tt.wh (I := fun (st : Int × Int) _ => ∃ m j : Nat, st = ((m : Int), (j : Int)) ∧ 0 < m ∧ m ≤ n - 1 ∧ j + vp 2 m = s2 n ∧ m / 2 ^ vp 2 m = d2 n) (nu := fun st => st.1.toNat) ?_ many _ _ ⟨n - 1, 0, rfl, by omega, Nat.le_refl _, by unfold s2; omega, rfl⟩ (lt_many (by show ((n - 1 : Nat) : Int).toNat < _; omega))
    rintro st s k P ⟨m, j, rfl, h0, hle, h1, h2⟩ hk
    refine tt_grd.mpr ⟨by omega, hk _ _ (fun ht => ?_) (fun ht => ?_)⟩
    · have hd : m % 2 = 0 := by simp only [decide_eq_true_eq] at ht; omega
      refine tt_grd.mpr ⟨dv_nat (p := 2) (by omega) (by decide), tt_bnd.mpr (tt_bnd.mpr (tt_pure.mpr ⟨⟨m / 2, j + 1, by rw [show (m : Int) / 2 = ((m / 2 : Nat) : Int) by omega]; rfl, by omega, by omega, ?_, ?_⟩, ?_⟩))⟩
      · rw [vp_s h0 (by decide) hd] at h1; omega
      · rw [← h2, vp_s h0 (by decide) hd, Nat.pow_succ, Nat.mul_comm (2 ^ _) 2, ← Nat.div_div_eq_div_mul]
      · show ((m : Int) / 2).toNat < (m : Int).toNat
        omega
    · have hd : m % 2 ≠ 0 := by simp only [decide_eq_false_iff_not] at ht; omega
      rw [vp_no hd] at h1 h2
      rw [Nat.pow_zero, Nat.div_one] at h2
      show ((m : Int), (j : Int)) = _
      rw [← h2, ← h1, Nat.add_zero]
  · rintro st _ rfl
    refine (tt_lft (law_rest_ok hn hn2 (by omega))).mpr (tt_bnd.mpr ?_)
    by_cases h1 : a ^ d2 n % n = 1
    · refine Tt.pos (by rw [decide_eq_true_iff]; omega) (tt_bnd.mpr (tt_pure.mpr ?_))
      symm; rw [decide_eq_true_iff]; exact .inl h1
    · refine Tt.neg (by rw [decide_eq_true_iff]; omega) (tt_grd.mpr ⟨⟨by show -(2 ^ 62) ≤ (s2 n : Int); omega, by show (s2 n : Int) < 2 ^ 62; omega⟩, Tt.then (strong_loop (P := fun o _ => (∀ st, o = .go st → ¬ Strong n a (s2 n) (d2 n)) ∧ (∀ st, o ≠ .brk st) ∧ (∀ r, o = .ret r → r = decide (Strong n a (s2 n) (d2 n)))) hn hn2 (by omega) h1 fun o x y z => ⟨x, y, z⟩) fun o _ h => ?_⟩)
      cases o with
      | go st => exact tt_bnd.mpr (tt_pure.mpr (by symm; rw [decide_eq_false_iff_not]; exact h.1 st rfl))
      | brk st => exact absurd rfl (h.2.1 st)
      | ret r => exact tt_pure.mpr (h.2.2 r rfl)
end Wk
set_option Elab.async false
set_option maxRecDepth 100000
set_option maxHeartbeats 4000000
set_option linter.all false
/-! A91b: counts of passes, orders -/
namespace Wk
open PySem L2
open PyProof.Rows hiding St
theorem ip4 {n m : Nat} (hn : 0 < n) (h : n ≤ 20000) (hd : m ∣ n) (hi : isp m = true) : Pr m :=
  isp_right chk4 (by decide) (by decide) (Nat.le_trans (Nat.le_of_dvd hn hd) h) hi
theorem po {n : Nat} (hn : 0 < n) (h : n ≤ 20000) : m_primes_of n = some (pfi (pf n)) := primes_of_ok hn (by omega) fun m hd hi => ip4 hn h hd hi
theorem pf_low {n : Nat} (hn : 0 < n) (h : n ≤ 20000) : ∀ y ∈ pf n, 2 ≤ y.1 ∧ y.1 ≤ 20000 ∧ 1 ≤ y.2 ∧ y.2 ≤ 20 := fun ⟨q, k⟩ hm => by
  have hp := pf_ok hn (by omega)
  have := hp.low hn hm
  have hv := ((hp.m q k).mp hm).2.2
  have : vp q n < 15 := vp_log this.1 hn (by omega)
  show 2 ≤ q ∧ q ≤ 20000 ∧ 1 ≤ k ∧ k ≤ 20
  omega
theorem pf_len {n : Nat} (hn : 0 < n) (h : n ≤ 20000) : (pf n).length ≤ 15 := by
  have := (pf_ok hn (by omega)).len hn
  have : (pf n).length < 15 := (Nat.pow_lt_pow_iff_right (by decide : 1 < 2)).mp (by omega)
  omega
/-- a product over a list -/
theorem Tt.prod {α X : Type} {f : α → Int → Option Int} (ex : X → α) (g : X → Nat) (l : List X) (hl : l.length ≤ 100) (hb : ∀ x ∈ l, g x ≤ 10 ^ 5)
    (hf : ∀ x ∈ l, ∀ (z : Nat) (P : Int → Unit → Prop), Sm (z : Int) → P ((z * g x : Nat) : Int) () → Tt () (f (ex x) (z : Int)) P) {P : Int → Unit → Prop}
    (hP : l.foldl (fun a x => a * g x) 1 ≤ 10 ^ 500 → P ((l.foldl (fun a x => a * g x) 1 : Nat) : Int) ()) : Tt () (lpS (l.map ex) f (1 : Int)) P := by
  refine Tt.fold (μ := Option) (f := f) ex (fun z : Nat => (z : Int)) (fun a x => a * g x) (fun z r => z ≤ 10 ^ (5 * (100 - r.length)) ∧ r.length ≤ 100 ∧ ∀ x ∈ r, x ∈ l) ?_ l 1 () ⟨Nat.pow_pos (by decide), hl, fun x hx => hx⟩ fun h => hP h.1
  rintro x xs z s P ⟨h1, h2, h3⟩ hk
  rw [List.length_cons] at h1 h2
  have hx := h3 x (List.mem_cons_self ..)
  refine hf x hx z P (sm_pow h1 (by omega)) (hk ⟨?_, by omega, fun y hy => h3 y (List.mem_cons_of_mem _ hy)⟩)
  have : 10 ^ (5 * (100 - xs.length)) = 10 ^ (5 * (100 - (xs.length + 1))) * 10 ^ 5 := by rw [← Nat.pow_add]; congr 1; omega
  rw [this]
  exact Nat.mul_le_mul h1 (hb x hx)
def pairI (y : Nat × Nat) : Int × Int := ((y.1 : Int), (y.2 : Int))
theorem gcd_le {a b k : Nat} (hb : 0 < b) (h : b ≤ k) : Nat.gcd a b ≤ k := Nat.le_trans (Nat.le_of_dvd hb (Nat.gcd_dvd_right a b)) h
def pn (n : Nat) : Nat := (pf n).foldl (fun a y => a * Nat.gcd (n - 1) (y.1 - 1)) 1
theorem passes_number_ok {n : Nat} (hn : 2 ≤ n) (h : n ≤ 20000) : m_passes_number n = some (pn n : Int) := by
  unfold m_passes_number pn
  refine tt_eq (tt_bnd.mpr ((tt_lft (po (by omega) h)).mpr (Tt.then (Tt.prod (P := fun st _ => st = ((pn n : Nat) : Int)) pairI (fun y => Nat.gcd (n - 1) (y.1 - 1)) (pf n) (by have := pf_len (n := n) (by omega) h; omega) (fun y hy => ?_) (fun y hy z P hz hP => ?_) fun _ => rfl) ?_)))
  · have := pf_low (by omega) h y hy
    exact gcd_le (by omega) (by omega)
  · have hy := pf_low (by omega) h y hy
    have e1 : ((n : Int) - 1) = ((n - 1 : Nat) : Int) := by omega
    have e2 : ((pairI y).1 - 1) = ((y.1 - 1 : Nat) : Int) := by show (y.1 : Int) - 1 = _; omega
    rw [e1, e2]
    have hg : Nat.gcd (n - 1) (y.1 - 1) ≤ 20000 := gcd_le (by omega) (by omega)
    refine (tt_lft (common_divisor_ok (by omega))).mpr (tt_grd.mpr ⟨⟨hz, sm_nat (by omega)⟩, tt_bnd.mpr (tt_pure.mpr ?_)⟩)
    rw [← Int.natCast_mul]; exact hP
  · rintro st _ rfl
    exact tt_bnd.mpr (tt_pure.mpr rfl)
theorem power_of_ok {a k : Nat} (ha : a ≤ 20000) (hk : k ≤ 100) : m_power_of a k = some ((a ^ k : Nat) : Int) := by
  unfold m_power_of
  refine tt_eq (tt_bnd.mpr (tt_grd.mpr ⟨⟨by omega, by omega⟩, Tt.then (P' := fun st _ => st = ((a ^ k : Nat) : Int)) ?_ fun st _ h => ?_⟩))
  · refine (Tt.rg (I := fun (x : Int) (st : Int) _ => ∃ y : Nat, x = y ∧ st = ((a ^ y : Nat) : Int)) ?_ k 0 _ _ (by omega) ⟨0, rfl, by rw [Nat.pow_zero]; rfl⟩).mono (fun st _ => by
      rintro ⟨y, e, rfl⟩
      have : y = k := by omega
      rw [this])
    rintro x st s hx ⟨y, rfl, rfl⟩
    have hb : a ^ y ≤ 10 ^ (5 * y) := by rw [Nat.pow_mul]; exact Nat.pow_le_pow_left (by omega) y
    refine tt_grd.mpr ⟨⟨sm_pow hb (by omega), sm_nat (by omega)⟩, tt_bnd.mpr (tt_pure.mpr ⟨y + 1, by omega, by rw [Nat.pow_succ, Int.natCast_mul]⟩)⟩
  · subst h; exact tt_bnd.mpr (tt_pure.mpr rfl)
def ln (y : Nat × Nat) : List Nat := if 2 < y.1 ∨ y.2 < 3 then [(y.1 - 1) * y.1 ^ (y.2 - 1)] else [2, 2 ^ (y.2 - 2)]
def lens (n : Nat) : List Nat := (pf n).foldl (fun a y => a ++ ln y) []
def ci (l : List Nat) : List Int := l.map fun d : Nat => (d : Int)
theorem ci_app (a b : List Nat) : ci (a ++ b) = ci a ++ ci b := List.map_append
theorem ci_len (a : List Nat) : (ci a).length = a.length := List.length_map ..
theorem ln_len (y : Nat × Nat) : (ln y).length ≤ 2 := by unfold ln; split <;> simp
theorem round_lengths_ok {n : Nat} (hn : 2 ≤ n) (h : n ≤ 20000) : m_round_lengths n = some (ci (lens n)) := by
  unfold m_round_lengths lens
  refine tt_eq (tt_grd.mpr ⟨by simp, tt_bnd.mpr ((tt_lft (po (by omega) h)).mpr (Tt.then (P' := fun st _ => st = ci (lens n)) ?_ ?_))⟩)
  · have hl := pf_len (n := n) (by omega) h
    refine Tt.fold (μ := Option) pairI ci (fun a y => a ++ ln y) (fun z r => z.length + 2 * r.length ≤ 100 ∧ ∀ x ∈ r, x ∈ pf n) ?_ (pf n) [] () ⟨by simp; omega, fun x hx => hx⟩ fun _ => rfl
    rintro y r z s P ⟨h1, h2⟩ hk
    rw [List.length_cons] at h1
    have hy := pf_low (by omega) h y (h2 y (List.mem_cons_self ..))
    have hq := hk ⟨by rw [List.length_append]; have := ln_len y; omega, fun x hx => h2 x (List.mem_cons_of_mem _ hx)⟩
    unfold ln at hq
    have ez : (ci z).length ≤ 200 := by rw [ci_len]; omega
    by_cases c : 2 < y.1 ∨ y.2 < 3
    · rw [if_pos c] at hq
      refine Tt.pos ?_ ?_
      · rw [Bool.or_eq_true, decide_eq_true_iff, decide_eq_true_iff]
        show (2 : Int) < (y.1 : Int) ∨ (y.2 : Int) < 3
        omega
      · have e1 : ((pairI y).2 - 1) = ((y.2 - 1 : Nat) : Int) := by show (y.2 : Int) - 1 = _; omega
        have e2 : ((pairI y).1 - 1) = ((y.1 - 1 : Nat) : Int) := by show (y.1 : Int) - 1 = _; omega
        rw [e1, e2]
        have hb : y.1 ^ (y.2 - 1) ≤ 10 ^ (5 * (y.2 - 1)) := by rw [Nat.pow_mul]; exact Nat.pow_le_pow_left (by omega) _
        refine (tt_lft (power_of_ok (a := y.1) (k := y.2 - 1) (by omega) (by omega))).mpr (tt_grd.mpr ⟨⟨sm_nat (by omega), sm_pow hb (by omega)⟩, tt_grd.mpr ⟨by omega, tt_bnd.mpr (tt_pure.mpr ?_)⟩⟩)
        rw [← Int.natCast_mul]
        rw [ci_app] at hq
        exact hq
    · rw [if_neg c] at hq
      refine Tt.neg ?_ ?_
      · rw [Bool.or_eq_true, decide_eq_true_iff, decide_eq_true_iff]
        show ¬ ((2 : Int) < (y.1 : Int) ∨ (y.2 : Int) < 3)
        omega
      · have e1 : ((pairI y).2 - 2) = ((y.2 - 2 : Nat) : Int) := by show (y.2 : Int) - 2 = _; omega
        rw [e1]
        refine (tt_lft (power_of_ok (a := 2) (k := y.2 - 2) (by omega) (by omega))).mpr (tt_grd.mpr ⟨by simp, tt_grd.mpr ⟨by show (ci z).length + 2 ≤ _; omega, tt_bnd.mpr (tt_pure.mpr ?_)⟩⟩)
        rw [ci_app] at hq
        exact hq
  · rintro st _ rfl
    exact tt_bnd.mpr (tt_pure.mpr rfl)
/-- the lengths are small -/
def LOk (n : Nat) : Prop := (lens n).length ≤ 40 ∧ ∀ x ∈ lens n, 1 ≤ x ∧ x ≤ 20000
instance (n : Nat) : Decidable (LOk n) := inferInstanceAs (Decidable (_ ∧ _))
def lam (n : Nat) : Nat := (lens n).foldl (fun a x => a / Nat.gcd a x * x) 1
def rn (n : Nat) : Nat := (lens n).foldl (fun a x => a * x) 1
theorem rests_number_ok {n : Nat} (hn : 2 ≤ n) (h : n ≤ 20000) (hl : LOk n) : m_rests_number n = some (rn n : Int) := by
  unfold m_rests_number rn
  refine tt_eq (tt_bnd.mpr ((tt_lft (round_lengths_ok hn h)).mpr (Tt.then (Tt.prod (P := fun st _ => st = ((rn n : Nat) : Int)) (fun x : Nat => (x : Int)) (fun y => y) (lens n) (by have := hl.1; omega) (fun y hy => by have := hl.2 y hy; omega) (fun y hy z P hz hP => ?_) fun _ => rfl) ?_)))
  · refine tt_grd.mpr ⟨⟨hz, sm_nat (by have := hl.2 y hy; omega)⟩, tt_bnd.mpr (tt_pure.mpr ?_)⟩
    rw [← Int.natCast_mul]; exact hP
  · rintro st _ rfl
    exact tt_bnd.mpr (tt_pure.mpr rfl)
theorem greatest_order_ok {n : Nat} (hn : 2 ≤ n) (h : n ≤ 20000) (hl : LOk n) : m_greatest_order n = some (lam n : Int) ∧ 0 < lam n := by
  have key : Tt () (m_greatest_order n) fun a _ => a = (lam n : Int) ∧ 0 < lam n := by
    unfold m_greatest_order lam
    refine tt_bnd.mpr ((tt_lft (round_lengths_ok hn h)).mpr (Tt.then (P' := fun st _ => st = ((lam n : Nat) : Int) ∧ 0 < lam n) ?_ fun st _ q => tt_bnd.mpr (tt_pure.mpr q)))
    refine Tt.fold (μ := Option) (fun x : Nat => (x : Int)) (fun z : Nat => (z : Int)) (fun a x => a / Nat.gcd a x * x) (fun z r => 0 < z ∧ z ≤ 10 ^ (5 * (40 - r.length)) ∧ r.length ≤ 40 ∧ ∀ x ∈ r, x ∈ lens n) ?_ (lens n) 1 () ⟨by decide, Nat.pow_pos (by decide), hl.1, fun x hx => hx⟩ fun h => ⟨rfl, h.1⟩
    rintro x r z s P ⟨h0, h1, h2, h3⟩ hk
    rw [List.length_cons] at h1 h2
    have hx := hl.2 x (h3 x (List.mem_cons_self ..))
    have hg : 0 < Nat.gcd z x := Nat.gcd_pos_of_pos_left _ h0
    have hd : z / Nat.gcd z x ≤ z := Nat.div_le_self _ _
    have hp : 0 < z / Nat.gcd z x := Nat.div_pos (Nat.le_of_dvd h0 (Nat.gcd_dvd_left z x)) hg
    have hgx : Nat.gcd z x ≤ 20000 := gcd_le (by omega) (by omega)
    have e10 : 10 ^ (5 * (40 - r.length)) = 10 ^ (5 * (40 - (r.length + 1))) * 10 ^ 5 := by rw [← Nat.pow_add]; congr 1; omega
    have q := hk ⟨Nat.mul_pos hp (by omega), by rw [e10]; exact Nat.mul_le_mul (Nat.le_trans hd h1) (by omega), by omega, fun y hy => h3 y (List.mem_cons_of_mem _ hy)⟩
    refine (tt_lft (common_divisor_ok (by omega))).mpr (tt_grd.mpr ⟨dv_nat hg (by omega), ?_⟩)
    rw [ndiv]
    refine tt_grd.mpr ⟨⟨sm_pow (Nat.le_trans hd h1) (by omega), sm_nat (by omega)⟩, tt_bnd.mpr (tt_pure.mpr ?_)⟩
    rw [← Int.natCast_mul]; exact q
  obtain ⟨a, s1, e, rfl, h0⟩ := key
  refine ⟨?_, h0⟩
  cases hm : m_greatest_order (n : Int) with
  | none => rw [hm] at e; cases e
  | some b => rw [hm] at e; cases e; rfl
/-! ### the order of a base -/
theorem law_order_ok {a n K : Nat} (hn : 2 ≤ n) (hn2 : n ≤ 20000) (ha : a ≤ 20000) (hK : 0 < K) (hK2 : K ≤ 20000) (h : a ^ K % n = 1) (hmin : ∀ j, 0 < j → j < K → a ^ j % n ≠ 1) : m__law_order a n = some (K : Int) := by
  unfold m__law_order
  refine tt_eq (tt_grd.mpr ⟨by omega, tt_bnd.mpr (tt_bnd.mpr (Tt.then (P' := fun st _ => st.2 = (K : Int)) ?_ fun st _ q => tt_bnd.mpr (tt_pure.mpr q)))⟩)
  rw [nmod]
  refine Tt.wh (I := fun (st : Int × Int) _ => ∃ k : Nat, st = (((a ^ k % n : Nat) : Int), (k : Int)) ∧ 0 < k ∧ k ≤ K) (nu := fun st => K - st.2.toNat) ?_ many _ _ ⟨1, by rw [Nat.pow_one]; rfl, by decide, hK⟩ (lt_many (by show K - _ < _; omega))
  rintro st s k P ⟨j, rfl, h0, h1⟩ hk
  refine tt_grd.mpr ⟨by omega, hk _ _ (fun ht => ?_) (fun ht => ?_)⟩
  · rw [one_mod hn] at ht
    have ht : (!decide (((a ^ j % n : Nat) : Int) = 1)) = true := ht
    have hne : a ^ j % n ≠ 1 := fun e => by rw [e] at ht; exact absurd ht (by decide)
    have hjK : j ≠ K := by rintro rfl; exact hne h
    have hlt : a ^ j % n < n := Nat.mod_lt _ (by omega)
    refine tt_grd.mpr ⟨⟨sm_nat (by show a ^ j % n ≤ _; omega), sm_nat (by omega)⟩, tt_grd.mpr ⟨by omega, tt_bnd.mpr (tt_bnd.mpr (tt_pure.mpr ⟨⟨j + 1, ?_, by omega, by omega⟩, ?_⟩))⟩⟩
    · show ((((a ^ j % n : Nat) : Int) * (a : Int)) % (n : Int), (j : Int) + 1) = _
      rw [mulmod, Nat.mul_mod, Nat.mod_mod, ← Nat.mul_mod, ← Nat.pow_succ]; rfl
    · show K - ((j : Int) + 1).toNat < K - (j : Int).toNat
      omega
  · rw [one_mod hn] at ht
    have ht : (!decide (((a ^ j % n : Nat) : Int) = 1)) = false := ht
    have he : a ^ j % n = 1 := Classical.byContradiction fun z => by
      rw [decide_eq_false (by omega)] at ht
      cases ht
    show (j : Int) = K
    have : j = K := Classical.byContradiction fun z => hmin j h0 (by omega) he
    rw [this]
theorem power_order_ok {a n : Nat} (hn : 2 ≤ n) (hn2 : n ≤ 20000) (hl : LOk n) (hM : lam n ≤ 20000) (hg : Nat.gcd a n = 1) (h : a ^ lam n % n = 1) :
    ∃ K : Nat, m_power_order a n = some (K : Int) ∧ 0 < K ∧ K ≤ 20000 ∧ a ^ K % n = 1 ∧ ∀ q, Pr q → K % q = 0 → a ^ (K / q) % n ≠ 1 := by
  obtain ⟨hgo, hM0⟩ := greatest_order_ok hn hn2 hl
  generalize lam n = M at *
  have hpf := pf_ok (n := M) hM0 (by omega)
  have key : Tt () (m_power_order a n) fun r _ => ∃ K : Nat, r = (K : Int) ∧ 0 < K ∧ K ≤ 20000 ∧ a ^ K % n = 1 ∧ ∀ q, Pr q → K % q = 0 → a ^ (K / q) % n ≠ 1 := by
    unfold m_power_order
    refine (tt_lft (common_divisor_ok (by omega))).mpr (Tt.neg (by rw [hg]; decide) ((tt_lft hgo).mpr (tt_bnd.mpr ((tt_lft (po hM0 hM)).mpr (Tt.then (P' := fun r _ => ∃ K : Nat, r = (K : Int) ∧ 0 < K ∧ K ≤ 20000 ∧ a ^ K % n = 1 ∧ ∀ q, Pr q → K % q = 0 → a ^ (K / q) % n ≠ 1) ?_ fun r _ q => tt_bnd.mpr (tt_pure.mpr q))))))
    refine Tt.mono (Tt.lp (I := fun (l : List (Int × Int)) (st : Int) _ => ∃ (r : List (Nat × Nat)) (K : Nat), l = r.map pairI ∧ st = (K : Int) ∧ (∀ y ∈ r, y ∈ pf M) ∧ 0 < K ∧ K ∣ M ∧ a ^ K % n = 1 ∧ ∀ q, Pr q → K % q = 0 → (∃ k, (q, k) ∈ r) ∨ a ^ (K / q) % n ≠ 1) ?_ _ _ _ ⟨pf M, M, rfl, rfl, fun y hy => hy, hM0, Nat.dvd_refl _, h, fun q hq hd => .inl ⟨vp q M, (hpf.m _ _).mpr ⟨hq, Nat.dvd_of_mod_eq_zero hd, rfl⟩⟩⟩) ?_
    · rintro x xs st s ⟨r, K, e, rfl, hr, hK0, hKM, hKa, hKq⟩
      cases r with
      | nil => cases e
      | cons y r =>
        rw [List.map_cons] at e
        injection e with e1 e2
        subst e1 e2
        have hy := hr y (List.mem_cons_self ..)
        have hyl := pf_low hM0 hM y hy
        have hyp : Pr y.1 := ((hpf.m y.1 y.2).mp hy).1
        refine Tt.then (P' := fun r' _ => ∃ K' : Nat, r' = (K' : Int) ∧ 0 < K' ∧ K' ∣ K ∧ a ^ K' % n = 1 ∧ (K' % y.1 = 0 → a ^ (K' / y.1) % n ≠ 1)) ?_ ?_
        · refine Tt.wh (I := fun (st : Int) _ => ∃ K' : Nat, st = (K' : Int) ∧ 0 < K' ∧ K' ∣ K ∧ a ^ K' % n = 1) (nu := fun st => st.toNat) ?_ many _ _ ⟨K, rfl, hK0, Nat.dvd_refl _, hKa⟩ (lt_many (by have := Nat.le_of_dvd hM0 hKM; show K < _; omega))
          rintro st s1 k P ⟨K', rfl, h0, hd, he⟩ hk
          have hKle := Nat.le_of_dvd hK0 hd
          have hMle := Nat.le_of_dvd hM0 hKM
          refine tt_grd.mpr ⟨by show (0 : Int) < (y.1 : Int); omega, ?_⟩
          by_cases z : K' % y.1 = 0
          · refine Tt.then (P' := fun b _ => b = decide (a ^ (K' / y.1) % n = 1)) ?_ ?_
            · refine Tt.pos (by rw [decide_eq_true_iff]; show (K' : Int) % (y.1 : Int) = 0; omega) (tt_grd.mpr ⟨dv_nat (by omega) (by omega), ?_⟩)
              show Tt s1 (Mir.lft (m_power_rest a ((K' : Int) / (y.1 : Int)) n) >>= _) _
              rw [ndiv]
              have : K' / y.1 ≤ K' := Nat.div_le_self _ _
              refine (tt_lft (power_rest_ok (by omega) (by omega) (by omega))).mpr (tt_grd.mpr ⟨by omega, tt_pure.mpr ?_⟩)
              rw [one_mod hn]
              exact decide_eq_decide.mpr (by omega)
            · rintro b s2 rfl
              refine hk _ _ (fun ht => ?_) (fun ht => ?_)
              · rw [decide_eq_true_iff] at ht
                have h3 : 0 < K' / y.1 := Nat.div_pos (Nat.le_of_dvd h0 (Nat.dvd_of_mod_eq_zero z)) (by omega)
                have h4 : K' / y.1 < K' := Nat.div_lt_self h0 (by omega)
                refine tt_grd.mpr ⟨dv_nat (by omega) (by omega), tt_bnd.mpr (tt_pure.mpr ⟨⟨K' / y.1, by show (K' : Int) / (y.1 : Int) = _; rw [ndiv], h3, Nat.dvd_trans ⟨y.1, (Nat.div_mul_cancel (Nat.dvd_of_mod_eq_zero z)).symm⟩ hd, ht⟩, ?_⟩)⟩
                show ((K' : Int) / (y.1 : Int)).toNat < (K' : Int).toNat
                rw [ndiv]; omega
              · rw [decide_eq_false_iff_not] at ht
                exact ⟨K', rfl, h0, hd, he, fun _ => ht⟩
          · refine Tt.then (P' := fun b _ => b = false) (Tt.neg (by rw [decide_eq_true_iff]; show ¬ (K' : Int) % (y.1 : Int) = 0; omega) (tt_pure.mpr rfl)) ?_
            rintro b s2 rfl
            refine hk _ _ (fun ht => nomatch ht) (fun _ => ?_)
            exact ⟨K', rfl, h0, hd, he, fun hz => absurd hz z⟩
        · rintro r' _ ⟨K', rfl, h0, hd, he, hz⟩
          refine tt_pure.mpr ⟨r, K', rfl, rfl, fun w hw => hr w (List.mem_cons_of_mem _ hw), h0, Nat.dvd_trans hd hKM, he, fun q hq hqd => ?_⟩
          by_cases c : q = y.1
          · subst c; exact .inr (hz hqd)
          · have hqK : K % q = 0 := Nat.mod_eq_zero_of_dvd (Nat.dvd_trans (Nat.dvd_of_mod_eq_zero hqd) hd)
            rcases hKq q hq hqK with ⟨k, hk⟩ | hne
            · rcases List.mem_cons.mp hk with w | w
              · exact absurd (congrArg Prod.fst w) c
              · exact .inl ⟨k, w⟩
            · right
              intro e
              refine hne ?_
              obtain ⟨c1, hc1⟩ := Nat.dvd_of_mod_eq_zero hqd
              obtain ⟨c2, hc2⟩ := hd
              have e3 : K' / q = c1 := by rw [hc1, Nat.mul_div_cancel_left _ hq.pos]
              have e4 : K / q = c1 * c2 := by rw [hc2, hc1, Nat.mul_assoc, Nat.mul_div_cancel_left _ hq.pos]
              rw [e3] at e
              rw [e4]
              have := pow_mul_one (n := n) (a := a) (x := c1) (y := c1 * c2) (by rw [e, Nat.mod_eq_of_lt (by omega)]) ⟨c2, rfl⟩
              rw [this, Nat.mod_eq_of_lt (by omega)]
    · rintro st s ⟨r, K, e, rfl, hr, hK0, hKM, hKa, hKq⟩
      have : r = [] := List.map_eq_nil_iff.mp e.symm
      subst this
      refine ⟨K, rfl, hK0, Nat.le_trans (Nat.le_of_dvd hM0 hKM) hM, hKa, fun q hq hd => ?_⟩
      rcases hKq q hq hd with ⟨k, hk⟩ | hne
      · exact nomatch hk
      · exact hne
  obtain ⟨r, e, K, rfl, h1⟩ := tt_ex key
  exact ⟨K, e, h1⟩
theorem order_both {a n : Nat} (hn : 2 ≤ n) (hn2 : n ≤ 20000) (ha : a ≤ 20000) (hl : LOk n) (hM : lam n ≤ 20000) (hg : Nat.gcd a n = 1) (h : a ^ lam n % n = 1) :
    ∃ K : Nat, m_power_order a n = some (K : Int) ∧ m__law_order a n = some (K : Int) ∧ 0 < K ∧ ∀ m, a ^ m % n = 1 ↔ K ∣ m := by
  obtain ⟨K, h1, h2, h3, h4, h5⟩ := power_order_ok hn hn2 hl hM hg h
  have e1 : 1 % n = 1 := Nat.mod_eq_of_lt (by omega)
  have hd : ∀ m, a ^ m % n = 1 → K ∣ m := fun m hm => order_dvd h2 (by rw [h4, e1]) (fun q hq hz => by rw [e1]; exact h5 q hq hz) (by rw [hm, e1])
  refine ⟨K, h1, law_order_ok hn hn2 ha h2 h3 h4 (fun j hj hjK e => ?_), h2, fun m => ⟨hd m, fun hm => ?_⟩⟩
  · have := Nat.le_of_dvd hj (hd j e)
    omega
  · have := pow_mul_one (n := n) (a := a) (by rw [h4, e1]) hm
    rw [this, e1]
end Wk
set_option Elab.async false
set_option maxRecDepth 100000
set_option maxHeartbeats 4000000
set_option linter.all false
/-! A91c: counts of orders, numbers as prime, showing bases -/
namespace Wk
open PySem L2
open PyProof.Rows hiding St
/-- how many divisors -/
def pk (l : List (Nat × Nat)) : Nat := l.foldr (fun y a => (y.2 + 1) * a) 1
def dmI (acc : List Nat) (p k : Nat) : List Nat := (List.range k).foldl (fun lo j => lo ++ acc.map fun d => d * p ^ j) []
def dm (l : List (Nat × Nat)) : List Nat := l.foldl (fun acc y => dmI acc y.1 (y.2 + 1)) [1]
theorem dmI_s (acc : List Nat) (p k : Nat) : dmI acc p (k + 1) = dmI acc p k ++ acc.map fun d => d * p ^ k := by
  unfold dmI
  rw [List.range_succ, List.foldl_append]
  rfl
theorem dmI_len (acc : List Nat) (p : Nat) : ∀ k, (dmI acc p k).length = k * acc.length
  | 0 => by simp [dmI]
  | k + 1 => by rw [dmI_s, List.length_append, dmI_len acc p k, List.length_map, Nat.succ_mul]
theorem mem_dmI {acc : List Nat} {p x : Nat} : ∀ {k : Nat}, x ∈ dmI acc p k ↔ ∃ j, j < k ∧ ∃ d ∈ acc, x = d * p ^ j
  | 0 => by simp [dmI]
  | k + 1 => by
    rw [dmI_s, List.mem_append, mem_dmI, List.mem_map]
    constructor
    · rintro (⟨j, hj, d, hd, e⟩ | ⟨d, hd, e⟩)
      · exact ⟨j, by omega, d, hd, e⟩
      · exact ⟨k, by omega, d, hd, e.symm⟩
    · rintro ⟨j, hj, d, hd, e⟩
      by_cases z : j = k
      · subst z; exact .inr ⟨d, hd, e.symm⟩
      · exact .inl ⟨j, by omega, d, hd, e⟩
theorem pk_pos : ∀ l : List (Nat × Nat), 0 < pk l
  | [] => by decide
  | y :: l => Nat.mul_pos (by omega) (pk_pos l)
/-- the loop over one list of divisors -/
theorem divisors_made_ok {l : List (Nat × Nat)} (hl : ∀ y ∈ l, y.1 ≤ 20000 ∧ 1 ≤ y.1 ∧ y.2 ≤ 20) (hn : l.length ≤ 20) (hk : pk l ≤ 500) : m_divisors_made (l.map pairI) = some (srt (ci (dm l))) := by
  unfold m_divisors_made dm
  refine tt_eq (tt_grd.mpr ⟨by simp, tt_bnd.mpr (Tt.then (P' := fun st _ => st = ci (dm l)) ?_ ?_)⟩)
  · refine Tt.fold (μ := Option) pairI ci (fun acc y => dmI acc y.1 (y.2 + 1)) (fun z r => z.length * pk r ≤ 500 ∧ r.length ≤ 20 ∧ (∀ x ∈ r, x ∈ l) ∧ ∀ d ∈ z, d ≤ 10 ^ (5 * 20 * (20 - r.length))) ?_ l [1] () ⟨by simpa using hk, hn, fun x hx => hx, fun d hd => by
      rw [List.mem_singleton.mp hd]; exact Nat.pow_pos (by decide)⟩ fun _ => rfl
    rintro y r z s P ⟨h1, h2, h3, h4⟩ hq
    rw [List.length_cons] at h2 h4
    have hy := hl y (h3 y (List.mem_cons_self ..))
    have h1 : z.length * ((y.2 + 1) * pk r) ≤ 500 := h1
    have hpr := pk_pos r
    have hz5 : (y.2 + 1) * z.length ≤ 500 := by
      have : (y.2 + 1) * z.length * 1 ≤ (y.2 + 1) * z.length * pk r := Nat.mul_le_mul_left _ hpr
      have e : (y.2 + 1) * z.length * pk r = z.length * ((y.2 + 1) * pk r) := by rw [Nat.mul_comm (y.2 + 1) z.length, Nat.mul_assoc]
      omega
    have hzl : z.length ≤ 500 := by
      have : 1 * z.length ≤ (y.2 + 1) * z.length := Nat.mul_le_mul_right _ (by omega)
      omega
    have hpw : ∀ j, j ≤ y.2 → y.1 ^ j ≤ 10 ^ (5 * 20) := fun j hj => by
      refine Nat.le_trans (Nat.pow_le_pow_left (show y.1 ≤ 10 ^ 5 by omega) j) ?_
      rw [← Nat.pow_mul]
      exact Nat.pow_le_pow_right (by decide) (by omega)
    have e10 : 10 ^ (5 * 20 * (20 - r.length)) = 10 ^ (5 * 20 * (20 - (r.length + 1))) * 10 ^ (5 * 20) := by rw [← Nat.pow_add]; congr 1; omega
    refine tt_grd.mpr ⟨by simp, tt_bnd.mpr (tt_grd.mpr ⟨⟨by show -(2 ^ 62) ≤ (y.2 : Int) + 1; omega, by show (y.2 : Int) + 1 < 2 ^ 62; omega⟩, Tt.then (P' := fun st _ => st = ci (dmI z y.1 (y.2 + 1))) ?_ ?_⟩)⟩
    · refine (Tt.rg (I := fun (x : Int) (st : List Int) _ => ∃ j : Nat, x = j ∧ st = ci (dmI z y.1 j)) ?_ (y.2 + 1) 0 _ _ (by show (0 : Int) + ((y.2 + 1 : Nat) : Int) = (y.2 : Int) + 1; omega) ⟨0, rfl, rfl⟩).mono fun st _ => ?_
      · rintro x st s1 hx ⟨j, rfl, rfl⟩
        have hx : (j : Int) < (y.2 : Int) + 1 := hx
        refine tt_grd.mpr ⟨by rw [ci_len]; omega, tt_map (xs := ci z) (g := fun d : Int => d * ((y.1 ^ j : Nat) : Int)) (fun d hd s2 Q hQ => ?_) ?_⟩
        · obtain ⟨w, hw, rfl⟩ := List.mem_map.mp hd
          have hw4 := h4 w hw
          refine (tt_lft (power_of_ok (a := y.1) (k := j) (by omega) (by omega))).mpr (tt_grd.mpr ⟨⟨sm_lt (b := 10 ^ 2000) ?_ (by decide +kernel), sm_pow (hpw j (by omega)) (by omega)⟩, tt_pure.mpr hQ⟩)
          rw [Int.natAbs_natCast]
          exact Nat.le_trans hw4 (Nat.pow_le_pow_right (by decide) (by omega))
        · have e2 : (ci z).map (fun d : Int => d * ((y.1 ^ j : Nat) : Int)) = ci (z.map fun d => d * y.1 ^ j) := by
            unfold ci
            rw [List.map_map, List.map_map]
            apply List.map_congr_left
            intro d _
            show (d : Int) * ((y.1 ^ j : Nat) : Int) = ((d * y.1 ^ j : Nat) : Int)
            rw [Int.natCast_mul]
          rw [e2, ← ci_app, ← dmI_s]
          refine tt_grd.mpr ⟨?_, tt_bnd.mpr (tt_pure.mpr ⟨j + 1, by omega, rfl⟩)⟩
          rw [ci_len, ci_len, dmI_len, List.length_map]
          have : j * z.length ≤ (y.2 + 1) * z.length := Nat.mul_le_mul_right _ (by omega)
          omega
      · rintro ⟨j, e, rfl⟩
        have e : (y.2 : Int) + 1 = j := e
        have : j = y.2 + 1 := by omega
        rw [this]
    · rintro st _ rfl
      refine tt_bnd.mpr (tt_pure.mpr (hq ⟨?_, by omega, fun x hx => h3 x (List.mem_cons_of_mem _ hx), fun d hd => ?_⟩))
      · rw [dmI_len]
        have e : (y.2 + 1) * z.length * pk r = z.length * ((y.2 + 1) * pk r) := by rw [Nat.mul_comm (y.2 + 1) z.length, Nat.mul_assoc]
        omega
      · obtain ⟨j, hj, w, hw, rfl⟩ := mem_dmI.mp hd
        rw [e10]
        exact Nat.mul_le_mul (h4 w hw) (hpw j (by omega))
  · rintro st _ rfl
    exact tt_bnd.mpr (tt_pure.mpr rfl)
/-! ### orders counted -/
def cnt (n : Nat) (o : Nat) : Nat := (lens n).foldl (fun c x => c * Nat.gcd o x) 1
def ocs (n : Nat) (found : List (Int × Int)) (o : Int) : List (Int × Int) := found ++ [(o, (cnt n o.toNat : Int) - List.sum ((found.filter fun x => decide (o % x.1 = 0)).map fun x => x.2))]
def oc (n : Nat) : List (Int × Int) := (srt (ci (dm (pf (lam n))))).foldl (ocs n) []
theorem pk_foldl : ∀ (l : List (Nat × Nat)) (a : Nat), l.foldl (fun a y => a * (y.2 + 1)) a = a * pk l
  | [], a => by show a = a * 1; omega
  | y :: l, a => by
    show l.foldl (fun a y => a * (y.2 + 1)) (a * (y.2 + 1)) = a * ((y.2 + 1) * pk l)
    rw [pk_foldl l, Nat.mul_assoc]
theorem filt_map {f : Int × Int → Bool} : ∀ l : List (Int × Int), l.filterMap (fun x => if f x = true then some x.2 else none) = (l.filter f).map fun x => x.2
  | [] => rfl
  | x :: l => by
    rw [List.filterMap_cons, List.filter_cons]
    cases e : f x with
    | true => rw [if_pos rfl, if_pos rfl, List.map_cons, filt_map l]
    | false => rw [if_neg (by decide), if_neg (by decide), filt_map l]
theorem dm_pos {l : List (Nat × Nat)} (hl : ∀ y ∈ l, 1 ≤ y.1) : ∀ d ∈ dm l, 1 ≤ d := by
  have : ∀ (l : List (Nat × Nat)) (acc : List Nat), (∀ y ∈ l, 1 ≤ y.1) → (∀ d ∈ acc, 1 ≤ d) → ∀ d ∈ l.foldl (fun acc y => dmI acc y.1 (y.2 + 1)) acc, 1 ≤ d := by
    intro l
    induction l with
    | nil => intro acc _ h; exact h
    | cons y l ih =>
      intro acc h1 h2
      refine ih _ (fun z hz => h1 z (List.mem_cons_of_mem _ hz)) fun d hd => ?_
      obtain ⟨j, _, w, hw, rfl⟩ := mem_dmI.mp hd
      exact Nat.mul_pos (h2 w hw) (Nat.pow_pos (h1 y (List.mem_cons_self ..)))
  exact this l [1] hl fun d hd => by rw [List.mem_singleton.mp hd]; exact Nat.le_refl _
theorem dm_len : ∀ (l : List (Nat × Nat)) (acc : List Nat), (l.foldl (fun acc y => dmI acc y.1 (y.2 + 1)) acc).length = acc.length * pk l
  | [], acc => by show acc.length = acc.length * 1; omega
  | y :: l, acc => by
    show (l.foldl _ (dmI acc y.1 (y.2 + 1))).length = acc.length * ((y.2 + 1) * pk l)
    rw [dm_len l, dmI_len, Nat.mul_comm (y.2 + 1), Nat.mul_assoc]
theorem order_counts_ok {n : Nat} (hn : 2 ≤ n) (h : n ≤ 20000) (hl : LOk n) (hM : lam n ≤ 20000) (hk : pk (pf (lam n)) ≤ 500) : m_order_counts n = some (oc n) ∧ (oc n).length ≤ 500 ∧ ∀ x ∈ oc n, 0 < x.1 := by
  obtain ⟨hgo, hM0⟩ := greatest_order_ok hn h hl
  have hlow := pf_low hM0 hM
  have hpl := pf_len hM0 hM
  have hsp : (srt (ci (dm (pf (lam n))))).Perm (ci (dm (pf (lam n)))) := srt_perm _
  have hdl : (dm (pf (lam n))).length ≤ 500 := by
    unfold dm
    rw [dm_len]
    simpa using hk
  have hpos : ∀ x ∈ srt (ci (dm (pf (lam n)))), ∃ w : Nat, x = (w : Int) ∧ 0 < w := fun x hx => by
    obtain ⟨w, hw, rfl⟩ := List.mem_map.mp (hsp.mem_iff.mp hx)
    exact ⟨w, rfl, dm_pos (fun y hy => by have := hlow y hy; omega) w hw⟩
  have key : Tt () (m_order_counts n) fun a _ => a = oc n ∧ (oc n).length ≤ 500 ∧ ∀ x ∈ oc n, 0 < x.1 := by
    unfold m_order_counts
    refine (tt_lft hgo).mpr ((tt_lft (po hM0 hM)).mpr (tt_bnd.mpr (tt_bnd.mpr (Tt.then (Tt.prod (P := fun st _ => st = ((pk (pf (lam n)) : Nat) : Int)) pairI (fun y => y.2 + 1) (pf (lam n)) (by omega) (fun y hy => by have := hlow y hy; omega) (fun y hy z P hz hP => ?_) fun _ => ?_) ?_))))
    · have hy := hlow y hy
      refine tt_grd.mpr ⟨⟨hz, ?_⟩, tt_bnd.mpr (tt_pure.mpr ?_)⟩
      · show Sm ((y.2 : Int) + 1)
        exact sm_nat (a := y.2 + 1) (by omega)
      · rw [Int.natCast_mul] at hP; exact hP
    · rw [pk_foldl, Nat.one_mul]
    · rintro st _ rfl
      refine Tt.neg (by rw [decide_eq_true_iff]; omega) ((tt_lft (round_lengths_ok hn h)).mpr (tt_bnd.mpr (tt_grd.mpr ⟨by simp, tt_bnd.mpr ((tt_lft (divisors_made_ok (l := pf (lam n)) (fun y hy => by have := hlow y hy; omega) (by omega) hk)).mpr (Tt.then (P' := fun st _ => st = oc n ∧ (oc n).length ≤ 500 ∧ ∀ x ∈ oc n, 0 < x.1) ?_ fun st _ q => tt_bnd.mpr (tt_pure.mpr q)))⟩)))
      have e0 : srt (ci (dm (pf (lam n)))) = (srt (ci (dm (pf (lam n))))).map id := by rw [List.map_id]
      rw [e0]
      refine Tt.fold (μ := Option) id id (ocs n) (fun z r => z.length + r.length ≤ 500 ∧ (∀ x ∈ r, x ∈ srt (ci (dm (pf (lam n))))) ∧ ∀ x ∈ z, 0 < x.1) ?_ _ [] () ⟨by rw [hsp.length_eq, ci_len]; simpa using hdl, fun x hx => hx, fun x hx => nomatch hx⟩ fun q => ⟨rfl, q.1, q.2.2⟩
      rintro o r z s P ⟨h1, h2, h3⟩ hq
      rw [List.length_cons] at h1
      obtain ⟨w, hw, hw0⟩ := hpos o (h2 o (List.mem_cons_self ..))
      have hq2 := hq ⟨by unfold ocs; rw [List.length_append]; simp; omega, fun x hx => h2 x (List.mem_cons_of_mem _ hx), fun x hx => by
        unfold ocs at hx
        rcases List.mem_append.mp hx with y | y
        · exact h3 x y
        · rw [List.mem_singleton.mp y, hw]; show (0 : Int) < (w : Int); omega⟩
      subst hw
      show Tt s (bnd (1 : Int) fun count => _) P
      refine tt_bnd.mpr (Tt.then (Tt.prod (P := fun st _ => st = ((cnt n w : Nat) : Int)) (fun x : Nat => (x : Int)) (fun x => Nat.gcd w x) (lens n) (by have := hl.1; omega) (fun x hx => by have := hl.2 x hx; exact gcd_le (by omega) (by omega)) (fun x hx z' P' hz' hP' => ?_) fun _ => rfl) ?_)
      · have hx2 := hl.2 x hx
        refine (tt_lft (common_divisor_ok (a := w) (b := x) (by omega))).mpr (tt_grd.mpr ⟨⟨hz', sm_nat ?_⟩, tt_bnd.mpr (tt_pure.mpr ?_)⟩)
        · have : Nat.gcd w x ≤ 20000 := gcd_le (by omega) (by omega)
          omega
        · rw [← Int.natCast_mul]; exact hP'
      · rintro st _ rfl
        refine tt_grd.mpr ⟨by show z.length ≤ _; omega, tt_filterMap (xs := z) (g := fun x => if decide ((w : Int) % x.1 = 0) = true then some x.2 else none) (fun x hx s2 Q hQ => ?_) ?_⟩
        · refine tt_grd.mpr ⟨h3 x hx, ?_⟩
          by_cases c : decide ((w : Int) % x.1 = 0) = true
          · rw [if_pos c] at hQ
            exact Tt.pos c (tt_pure.mpr hQ)
          · rw [if_neg c] at hQ
            exact Tt.neg c (tt_pure.mpr hQ)
        · rw [filt_map]
          refine tt_grd.mpr ⟨by show z.length < _; omega, tt_bnd.mpr (tt_pure.mpr ?_)⟩
          exact hq2
  obtain ⟨r, e, rfl, h1, h2⟩ := tt_ex key
  exact ⟨e, h1, h2⟩
theorem all_congr_mem {α : Type} {f g : α → Bool} : ∀ {l : List α}, (∀ x ∈ l, f x = g x) → l.all f = l.all g
  | [], _ => rfl
  | x :: l, h => by rw [List.all_cons, List.all_cons, h x (List.mem_cons_self ..), all_congr_mem fun y hy => h y (List.mem_cons_of_mem _ hy)]
/-! ### as if prime -/
def asp (n : Nat) : Bool := decide (2 ≤ (pf n).length) && (pf n).all fun y => decide (y.2 = 1) && decide ((n - 1) % (y.1 - 1) = 0)
theorem is_as_prime_ok' {n : Nat} (hn : 2 ≤ n) (hpo : m_primes_of n = some (pfi (pf n))) (hlow : ∀ y ∈ pf n, 2 ≤ y.1) (hlen : (pf n).length ≤ 100) : m_is_as_prime n = some (asp n) := by
  unfold m_is_as_prime asp
  refine tt_eq ((tt_lft hpo).mpr (tt_bnd.mpr ?_))
  have el : ((pfi (pf n)).length : Int) = ((pf n).length : Int) := by rw [pfi_len]
  by_cases z : 2 ≤ (pf n).length
  · refine Tt.neg (by rw [decide_eq_true_iff, el]; omega) (tt_grd.mpr ⟨by rw [pfi_len]; omega, tt_map (xs := pfi (pf n)) (g := fun x : Int × Int => decide (x.2 = 1) && decide (((n : Int) - 1) % (x.1 - 1) = 0)) (fun x hx s Q hQ => ?_) (tt_bnd.mpr (tt_pure.mpr ?_))⟩)
    · obtain ⟨y, hy, rfl⟩ := List.mem_map.mp hx
      have hy2 := hlow y hy
      by_cases c : y.2 = 1
      · rw [if_pos (show decide ((y.2 : Int) = 1) = true by rw [decide_eq_true_iff]; omega)]
        rw [decide_eq_true (show (y.2 : Int) = 1 by omega), Bool.true_and] at hQ
        exact tt_bind.mpr (tt_grd.mpr ⟨by show (0 : Int) < (y.1 : Int) - 1; omega, tt_pure.mpr (tt_pure.mpr hQ)⟩)
      · rw [if_neg (show ¬ decide ((y.2 : Int) = 1) = true by rw [decide_eq_true_iff]; omega)]
        rw [decide_eq_false (show ¬ (y.2 : Int) = 1 by omega), Bool.false_and] at hQ
        exact tt_bind.mpr (tt_pure.mpr (tt_pure.mpr hQ))
    · rw [decide_eq_true z, Bool.true_and, List.all_map]
      unfold pfi
      rw [List.all_map]
      apply all_congr_mem
      intro y hy
      have hy2 := hlow y hy
      show (decide ((y.2 : Int) = 1) && decide (((n : Int) - 1) % ((y.1 : Int) - 1) = 0)) = _
      have e1 : ((n : Int) - 1) = ((n - 1 : Nat) : Int) := by omega
      have e2 : ((y.1 : Int) - 1) = ((y.1 - 1 : Nat) : Int) := by omega
      rw [e1, e2, nmod]
      congr 1
      · exact decide_eq_decide.mpr (by omega)
      · exact decide_eq_decide.mpr (by omega)
  · refine Tt.pos (by rw [decide_eq_true_iff, el]; omega) (tt_bnd.mpr (tt_pure.mpr ?_))
    rw [decide_eq_false z, Bool.false_and]
end Wk
set_option Elab.async false
set_option maxRecDepth 100000
set_option maxHeartbeats 4000000
set_option linter.all false
/-! A91d: strong passes counted, bases that show, parts by a base -/
namespace Wk
open PySem L2
open PyProof.Rows hiding St
theorem twos_in_ok {n : Nat} (hn : 0 < n) (hN : n < 10 ^ 40) : m_twos_in n = some (vp 2 n : Int) := by
  unfold m_twos_in
  refine tt_eq (tt_bnd.mpr (Tt.then (P' := fun st _ => st.2 = ((vp 2 n : Nat) : Int)) ?_ fun st _ h => tt_bnd.mpr (tt_pure.mpr h)))
  refine Tt.wh (I := fun (st : Int × Int) _ => ∃ m j : Nat, st = ((m : Int), (j : Int)) ∧ 0 < m ∧ j + vp 2 m = vp 2 n) (nu := fun st => st.1.toNat) ?_ many _ _ ⟨n, 0, rfl, hn, by omega⟩ (lt_many (by simpa using hN))
  rintro st s k P ⟨m, j, rfl, h0, h1⟩ hk
  refine tt_grd.mpr ⟨by omega, hk _ _ (fun ht => ?_) (fun ht => ?_)⟩
  · have hd : m % 2 = 0 := by simp only [decide_eq_true_eq] at ht; omega
    refine tt_grd.mpr ⟨dv_nat (p := 2) (by omega) (by decide), tt_bnd.mpr (tt_bnd.mpr (tt_pure.mpr ⟨⟨m / 2, j + 1, by rw [show (m : Int) / 2 = ((m / 2 : Nat) : Int) by omega]; rfl, by omega, ?_⟩, ?_⟩))⟩
    · rw [vp_s h0 (by decide) hd] at h1; omega
    · show ((m : Int) / 2).toNat < (m : Int).toNat
      omega
  · have hd : m % 2 ≠ 0 := by simp only [decide_eq_false_iff_not] at ht; omega
    rw [vp_no hd, Nat.add_zero] at h1
    show (j : Int) = _
    rw [h1]
/-- how many bases pass strongly, by a formula -/
def svp (n : Nat) : List Nat := (pf n).map fun y => vp 2 (y.1 - 1)
def spw (n : Nat) (v : Nat) : Nat × Nat := (List.range v).foldl (fun st _ => (st.1 + st.2, (pf n).foldl (fun a _ => 2 * a) st.2)) (0, 1)
def sgc (n : Nat) : Nat := (pf n).foldl (fun a y => a * Nat.gcd (d2 n) (y.1 - 1)) 1
theorem pw2 (l : List (Nat × Nat)) : ∀ a, l.foldl (fun a _ => 2 * a) a = 2 ^ l.length * a := by
  induction l with
  | nil => intro a; simp
  | cons y l ih =>
    intro a
    show l.foldl _ (2 * a) = 2 ^ (l.length + 1) * a
    rw [ih, Nat.pow_succ, Nat.mul_assoc]
theorem spw_s (n v : Nat) : spw n (v + 1) = ((spw n v).1 + (spw n v).2, 2 ^ (pf n).length * (spw n v).2) := by
  unfold spw
  rw [List.range_succ, List.foldl_append]
  show (_, _) = (_, _)
  rw [pw2]
theorem spw_le (n v : Nat) : (spw n v).2 = 2 ^ ((pf n).length * v) ∧ (spw n v).1 ≤ 2 ^ ((pf n).length * v + v) := by
  induction v with
  | zero => simp [spw]
  | succ v ih =>
    rw [spw_s]
    constructor
    · show 2 ^ (pf n).length * (spw n v).2 = _
      rw [ih.1, ← Nat.pow_add]
      congr 1
      rw [Nat.mul_succ, Nat.add_comm]
    · show (spw n v).1 + (spw n v).2 ≤ _
      have h1 : 2 ^ ((pf n).length * v) ≤ 2 ^ ((pf n).length * v + v) := Nat.pow_le_pow_right (by decide) (by omega)
      have h2 : 2 ^ ((pf n).length * v + v + 1) ≤ 2 ^ ((pf n).length * (v + 1) + (v + 1)) := Nat.pow_le_pow_right (by decide) (by rw [Nat.mul_succ]; omega)
      rw [Nat.pow_succ] at h2
      have := ih.2
      have := ih.1
      omega
theorem min_ci : ∀ {l : List Nat} {v : Nat}, l.min? = some v → (ci l).min? = some (v : Int) := by
  intro l
  cases l with
  | nil => intro v h; cases h
  | cons x l =>
    intro v h
    show some ((ci l).foldl min (x : Int)) = _
    have h : some (l.foldl min x) = some v := h
    have : ∀ (l : List Nat) (x : Nat), (ci l).foldl min (x : Int) = ((l.foldl min x : Nat) : Int) := by
      intro l
      induction l with
      | nil => intro x; rfl
      | cons y l ih =>
        intro x
        show (ci l).foldl min (min (x : Int) (y : Int)) = ((l.foldl min (min x y) : Nat) : Int)
        rw [← ih]
        congr 1
        omega
    rw [this, Option.some.inj h]
def sn (n v : Nat) : Nat := sgc n * (1 + (spw n v).1)
theorem strong_number_ok {n v : Nat} (hn : 2 ≤ n) (h : n ≤ 20000) (hv : (svp n).min? = some v) (hv2 : v ≤ 20) : m_strong_number n = some (sn n v : Int) := by
  unfold m_strong_number
  have hlow := pf_low (n := n) (by omega) h
  have hlen := pf_len (n := n) (by omega) h
  have e1 : (pfi (pf n)).map (fun x => x.1) = (pf n).map fun y : Nat × Nat => (y.1 : Int) := by unfold pfi; rw [List.map_map]; rfl
  refine tt_eq ((tt_lft (po (by omega) h)).mpr (tt_grd.mpr ⟨by rw [pfi_len]; omega, tt_bnd.mpr ?_⟩))
  rw [e1]
  have hd : d2 n ≤ n - 1 := Nat.div_le_self _ _
  refine (tt_lft (halves_of_ok hn (by omega))).mpr (tt_bnd.mpr (tt_grd.mpr ⟨by rw [List.length_map]; omega, tt_map (g := fun x : Int => (vp 2 (x.toNat - 1) : Int)) (fun x hx s Q hQ => ?_) ?_⟩))
  · obtain ⟨y, hy, rfl⟩ := List.mem_map.mp hx
    have hy2 := hlow y hy
    have e2 : ((y.1 : Int) - 1) = ((y.1 - 1 : Nat) : Int) := by omega
    rw [e2]
    refine (tt_lft (twos_in_ok (n := y.1 - 1) (by omega) (by omega))).mpr (tt_pure.mpr ?_)
    rw [Int.toNat_natCast] at hQ; exact hQ
  · have e3 : ((pf n).map fun y : Nat × Nat => (y.1 : Int)).map (fun x : Int => (vp 2 (x.toNat - 1) : Int)) = ci (svp n) := by
      unfold ci svp
      rw [List.map_map, List.map_map]
      rfl
    rw [e3]
    refine (tt_lft (min_ci hv)).mpr (tt_bnd.mpr (tt_bnd.mpr (tt_bnd.mpr (tt_bnd.mpr (tt_grd.mpr ⟨⟨by omega, by omega⟩, Tt.then (P' := fun st _ => st = (((spw n v).1 : Int), ((spw n v).2 : Int))) ?_ ?_⟩)))))
    · have hpow : ∀ j, j ≤ 20 → (spw n j).2 ≤ 2 ^ 300 := fun j hj => by
        rw [(spw_le n j).1]
        refine Nat.pow_le_pow_right (by decide) ?_
        calc (pf n).length * j ≤ 15 * 20 := Nat.mul_le_mul hlen hj
          _ = 300 := rfl
      refine (Tt.rg (I := fun (x : Int) (st : Int × Int) _ => ∃ j : Nat, x = j ∧ st = (((spw n j).1 : Int), ((spw n j).2 : Int))) ?_ v 0 _ _ (by omega) ⟨0, rfl, rfl⟩).mono fun st _ => ?_
      · rintro x st s hx ⟨j, rfl, rfl⟩
        refine tt_bnd.mpr (Tt.then (P' := fun st _ => st = ((2 ^ (pf n).length * (spw n j).2 : Nat) : Int)) ?_ ?_)
        · refine Tt.fold (μ := Option) (fun y : Nat × Nat => (y.1 : Int)) (fun z : Nat => (z : Int)) (fun a _ => 2 * a) (fun z r => z ≤ 2 ^ (330 - r.length) ∧ r.length ≤ 20) ?_ (pf n) (spw n j).2 s ⟨Nat.le_trans (hpow j (by omega)) (Nat.pow_le_pow_right (by decide) (by omega)), by omega⟩ fun _ => by rw [pw2]
          rintro y r z s P ⟨h1, h2⟩ hk
          rw [List.length_cons] at h1 h2
          have e10 : 2 ^ (330 - r.length) = 2 ^ (330 - (r.length + 1)) * 2 := by rw [← Nat.pow_succ]; congr 1; omega
          refine tt_grd.mpr ⟨⟨sm_small (by decide), sm_lt (b := 2 ^ 330) (by rw [Int.natAbs_natCast]; exact Nat.le_trans h1 (Nat.pow_le_pow_right (by decide) (by omega))) (by decide +kernel)⟩, tt_bnd.mpr (tt_pure.mpr ?_)⟩
          have := hk ⟨by rw [e10]; omega, by omega⟩
          rw [Int.natCast_mul] at this
          exact this
        · rintro st _ rfl
          refine tt_pure.mpr ⟨j + 1, by omega, ?_⟩
          rw [spw_s, Int.natCast_add]
      · rintro ⟨j, e, rfl⟩
        have : j = v := by omega
        rw [this]
    · rintro st _ rfl
      refine Tt.then (Tt.prod (P := fun st _ => st = ((sgc n : Nat) : Int)) (fun y : Nat × Nat => (y.1 : Int)) (fun y => Nat.gcd (d2 n) (y.1 - 1)) (pf n) (by omega) (fun y hy => ?_) (fun y hy z P hz hP => ?_) fun _ => rfl) ?_
      · have := hlow y hy
        exact gcd_le (by omega) (by omega)
      · have hy := hlow y hy
        have e2 : ((y.1 : Int) - 1) = ((y.1 - 1 : Nat) : Int) := by omega
        have hg : Nat.gcd (d2 n) (y.1 - 1) ≤ 20000 := gcd_le (by omega) (by omega)
        rw [e2]
        refine (tt_lft (common_divisor_ok (by omega))).mpr (tt_grd.mpr ⟨⟨hz, sm_nat (by omega)⟩, tt_bnd.mpr (tt_pure.mpr ?_)⟩)
        rw [← Int.natCast_mul]; exact hP
      · rintro st _ rfl
        have b1 : sgc n ≤ 20000 ^ 20 := by
          have : ∀ (l : List (Nat × Nat)) (a k : Nat), (∀ y ∈ l, y ∈ pf n) → a ≤ 20000 ^ k → l.foldl (fun a y => a * Nat.gcd (d2 n) (y.1 - 1)) a ≤ 20000 ^ (k + l.length) := by
            intro l
            induction l with
            | nil => intro a k _ ha; exact ha
            | cons y l ih =>
              intro a k hl ha
              have hy := hlow y (hl y (List.mem_cons_self ..))
              have := ih (a * Nat.gcd (d2 n) (y.1 - 1)) (k + 1) (fun z hz => hl z (List.mem_cons_of_mem _ hz)) (by rw [Nat.pow_succ]; exact Nat.mul_le_mul ha (gcd_le (by omega) (by omega)))
              rw [List.length_cons]
              rw [show k + (l.length + 1) = k + 1 + l.length by omega]
              exact this
          have := this (pf n) 1 0 (fun y hy => hy) (Nat.le_refl _)
          refine Nat.le_trans this (Nat.pow_le_pow_right (by decide) (by omega))
        have b2 : (spw n v).1 + 1 ≤ 2 ^ 330 := by
          have h1 := (spw_le n v).2
          have h2 : 2 ^ ((pf n).length * v + v) ≤ 2 ^ 329 := Nat.pow_le_pow_right (by decide) (by
            have : (pf n).length * v ≤ 15 * 20 := Nat.mul_le_mul hlen hv2
            omega)
          omega
        have e4 : (1 : Int) + ((spw n v).1 : Int) = ((1 + (spw n v).1 : Nat) : Int) := by omega
        show Tt () (Mir.lft (grd (Sm ((sgc n : Nat) : Int) ∧ Sm ((1 : Int) + ((spw n v).1 : Int)))) >>= _) _
        rw [e4]
        refine tt_grd.mpr ⟨⟨sm_lt (b := 20000 ^ 20) (by rw [Int.natAbs_natCast]; exact b1) (by decide +kernel), sm_lt (b := 2 ^ 330) (by rw [Int.natAbs_natCast]; omega) (by decide +kernel)⟩, tt_bnd.mpr (tt_pure.mpr ?_)⟩
        show ((sgc n : Nat) : Int) * ((1 : Int) + ((spw n v).1 : Int)) = _
        rw [e4, ← Int.natCast_mul]
        rfl
/-! ### tests by six bases -/
def told6 (n : Nat) : Bool := ([2, 3, 5, 7, 11, 13].filter fun b => !decide (b % n = 0) && !decide (n % b = 0)).all fun b => decide (Strong n (b % n) (s2 n) (d2 n))
theorem filt_map6 {α β : Type} {f : α → Bool} {g : α → β} : ∀ l : List α, l.filterMap (fun x => if f x = true then some (g x) else none) = (l.filter f).map g
  | [] => rfl
  | x :: l => by
    rw [List.filterMap_cons, List.filter_cons]
    cases e : f x with
    | true => rw [if_pos rfl, if_pos rfl, List.map_cons, filt_map6 l]
    | false => rw [if_neg (by decide), if_neg (by decide), filt_map6 l]
theorem is_prime_told_ok {n : Nat} (hn : 2 ≤ n) (hn2 : n < 10 ^ 14) : m_is_prime_told n = some (told6 n) := by
  unfold m_is_prime_told told6
  have e0 : ([(2 : Int), (3 : Int), (5 : Int), (7 : Int), (11 : Int), (13 : Int)] : List Int) = [2, 3, 5, 7, 11, 13].map fun x : Nat => (x : Int) := rfl
  refine tt_eq (tt_grd.mpr ⟨by simp, tt_grd.mpr ⟨by simp, ?_⟩⟩)
  rw [e0]
  refine tt_filterMap (g := fun x : Int => if (!decide (x % (n : Int) = 0) && !decide ((n : Int) % x = 0)) = true then some (decide (Strong n (x.toNat % n) (s2 n) (d2 n))) else none) (fun x hx s Q hQ => ?_) (tt_bnd.mpr (tt_pure.mpr ?_))
  · obtain ⟨b, hb, rfl⟩ := List.mem_map.mp hx
    have hb2 : 2 ≤ b ∧ b ≤ 13 := by
      have : ∀ b ∈ [2, 3, 5, 7, 11, 13], 2 ≤ b ∧ b ≤ 13 := by decide
      exact this b hb
    refine tt_grd.mpr ⟨by omega, ?_⟩
    by_cases z : (!decide ((b : Int) % (n : Int) = 0)) = true
    · rw [if_pos z]
      rw [z, Bool.true_and] at hQ
      refine tt_bind.mpr (tt_grd.mpr ⟨by omega, tt_pure.mpr ?_⟩)
      by_cases y : (!decide ((n : Int) % (b : Int) = 0)) = true
      · rw [if_pos y] at hQ
        refine Tt.pos y (tt_grd.mpr ⟨by omega, ?_⟩)
        rw [nmod]
        refine (tt_lft (does_pass_strongly_ok hn hn2)).mpr (tt_pure.mpr ?_)
        rw [Int.toNat_natCast] at hQ; exact hQ
      · rw [if_neg y] at hQ
        exact Tt.neg y (tt_pure.mpr hQ)
    · rw [if_neg z]
      rw [Bool.not_eq_true] at z
      rw [z, Bool.false_and, if_neg (by decide)] at hQ
      exact tt_bind.mpr (tt_pure.mpr (Tt.neg (by decide) (tt_pure.mpr hQ)))
  · rw [filt_map6, List.filter_map, List.map_map, List.all_map]
    have e1 : (fun b : Nat => !decide (b % n = 0) && !decide (n % b = 0)) = (fun x : Int => !decide (x % (n : Int) = 0) && !decide ((n : Int) % x = 0)) ∘ (fun x : Nat => (x : Int)) := by
      funext b
      show _ = (!decide ((b : Int) % (n : Int) = 0) && !decide ((n : Int) % (b : Int) = 0))
      congr 2
      · exact decide_eq_decide.mpr (by omega)
      · exact decide_eq_decide.mpr (by omega)
    rw [e1]
    apply all_congr_mem
    intro b _
    show decide (Strong n ((b : Int).toNat % n) (s2 n) (d2 n)) = _
    rw [Int.toNat_natCast]
/-- the least base that does not pass -/
theorem least_showing_ok {n : Nat} (hn : 2 ≤ n) (hn2 : n < 10 ^ 14) (hp : isp n = false) (hb : ∃ b, 2 ≤ b ∧ b < 1000 ∧ ¬ Strong n b (s2 n) (d2 n)) :
    ∃ b : Nat, m_least_showing n = some (b : Int) ∧ 2 ≤ b ∧ b < 1000 ∧ ¬ Strong n b (s2 n) (d2 n) ∧ ∀ c, 2 ≤ c → c < b → Strong n c (s2 n) (d2 n) := by
  obtain ⟨b0, hb1, hb2, hb3⟩ := hb
  refine (fun h : ∃ a, m_least_showing (n : Int) = some a ∧ (∃ b : Nat, a = (b : Int) ∧ 2 ≤ b ∧ b < 1000 ∧ ¬ Strong n b (s2 n) (d2 n) ∧ ∀ c, 2 ≤ c → c < b → Strong n c (s2 n) (d2 n)) => ?_) (tt_ex ?_)
  · obtain ⟨a, e, b, rfl, q⟩ := h
    exact ⟨b, e, q⟩
  unfold m_least_showing
  refine (tt_lft (is_prime_number_ok hn2)).mpr (Tt.neg (by rw [hp]; decide) (tt_bnd.mpr (Tt.then (P' := fun st _ => ∃ b : Nat, st = (b : Int) ∧ 2 ≤ b ∧ b < 1000 ∧ ¬ Strong n b (s2 n) (d2 n) ∧ ∀ c, 2 ≤ c → c < b → Strong n c (s2 n) (d2 n)) ?_ fun st _ q => tt_bnd.mpr (tt_pure.mpr q))))
  refine Tt.wh (I := fun (st : Int) _ => ∃ b : Nat, st = (b : Int) ∧ 2 ≤ b ∧ b ≤ b0 ∧ ∀ c, 2 ≤ c → c < b → Strong n c (s2 n) (d2 n)) (nu := fun st => b0 - st.toNat) ?_ many _ _ ⟨2, rfl, by decide, hb1, fun c h1 h2 => by omega⟩ (lt_many (by omega))
  rintro st s k P ⟨b, rfl, h1, h2, h3⟩ hk
  refine (tt_lft (does_pass_strongly_ok hn hn2)).mpr (hk _ _ (fun ht => ?_) (fun ht => ?_))
  · rw [decide_eq_true_iff] at ht
    have hne : b ≠ b0 := by rintro rfl; exact hb3 ht
    refine tt_bnd.mpr (tt_pure.mpr ⟨⟨b + 1, rfl, by omega, by omega, fun c hc1 hc2 => ?_⟩, by show b0 - ((b : Int) + 1).toNat < b0 - (b : Int).toNat; omega⟩)
    by_cases z : c = b
    · rw [z]; exact ht
    · exact h3 c hc1 (by omega)
  · rw [decide_eq_false_iff_not] at ht
    exact ⟨b, rfl, h1, by omega, ht, h3⟩
/-- what a square that leaves 1 parts -/
theorem sq_parts {n x : Nat} (hn : 3 ≤ n) (hx : x < n) (hsq : x * x % n = 1) (h1 : x ≠ 1) (h2 : x ≠ n - 1) : 2 ≤ Nat.gcd (x - 1) n ∧ Nat.gcd (x - 1) n < n ∧ Nat.gcd (x - 1) n * (n / Nat.gcd (x - 1) n) = n ∧ 2 ≤ n / Nat.gcd (x - 1) n := by
  have hx2 : 2 ≤ x := by
    rcases x with _ | _ | x
    · simp at hsq
    · exact absurd rfl h1
    · omega
  have hd : n ∣ x * x - 1 := mod_dvd (by rw [hsq, Nat.mod_eq_of_lt (by omega)]) (Nat.mul_pos (by omega) (by omega))
  have e : x * x - 1 = (x - 1) * (x + 1) := by
    obtain ⟨y, rfl⟩ : ∃ y, x = y + 1 := ⟨x - 1, by omega⟩
    rw [Nat.add_sub_cancel]
    have : (y + 1) * (y + 1) = y * (y + 1 + 1) + 1 := by
      simp only [Nat.add_mul, Nat.mul_add, Nat.one_mul, Nat.mul_one]; omega
    omega
  rw [e] at hd
  have hg0 : 0 < Nat.gcd (x - 1) n := Nat.gcd_pos_of_pos_right _ (by omega)
  have hdv := Nat.gcd_dvd_right (x - 1) n
  have hle : Nat.gcd (x - 1) n ≤ x - 1 := Nat.le_of_dvd (by omega) (Nat.gcd_dvd_left _ _)
  have hg2 : 2 ≤ Nat.gcd (x - 1) n := by
    refine Nat.lt_of_le_of_ne hg0 fun z => ?_
    have hc : Nat.Coprime n (x - 1) := by rw [Nat.Coprime, Nat.gcd_comm]; exact z.symm
    have := Nat.le_of_dvd (by omega) (hc.dvd_of_dvd_mul_left hd)
    omega
  have hm : Nat.gcd (x - 1) n * (n / Nat.gcd (x - 1) n) = n := Nat.mul_div_cancel' hdv
  refine ⟨hg2, by omega, hm, ?_⟩
  refine Nat.lt_of_not_le fun z => ?_
  have : Nat.gcd (x - 1) n * (n / Nat.gcd (x - 1) n) ≤ Nat.gcd (x - 1) n * 1 := Nat.mul_le_mul_left _ z
  omega
theorem parted_ok {n a : Nat} (hn : 3 ≤ n) (hn2 : n < 10 ^ 14) (hodd : n % 2 = 1) (hp : a ^ (n - 1) % n = 1) (hs : ¬ Strong n a (s2 n) (d2 n)) :
    ∃ x y : Int, m_parted_by_base n a = some [x, y] ∧ x * y = n ∧ 2 ≤ x ∧ x ≤ y ∧ x.natAbs ≤ 10 ^ 14 ∧ y.natAbs ≤ 10 ^ 14 := by
  have hd : d2 n ≤ n - 1 := Nat.div_le_self _ _
  have hs1 := s2_pos hn hodd
  have hs60 : s2 n < 60 := vp_log (by decide) (by omega) (by omega)
  have h0 : a ^ d2 n % n ≠ 1 := fun e => hs (.inl e)
  have hi : ∀ i, i < s2 n → a ^ (2 ^ i * d2 n) % n ≠ n - 1 := fun i h e => hs (.inr ⟨i, h, e⟩)
  have sq : ∀ i, (a ^ (2 ^ i * d2 n) % n) * (a ^ (2 ^ i * d2 n) % n) % n = a ^ (2 ^ (i + 1) * d2 n) % n := fun i => by
    rw [← Nat.mul_mod, ← Nat.pow_add, Nat.pow_succ, Nat.mul_comm (2 ^ i) 2, Nat.mul_assoc, Nat.two_mul]
  refine (fun h : ∃ r, m_parted_by_base (n : Int) (a : Int) = some r ∧ (∃ x y : Int, r = [x, y] ∧ x * y = n ∧ 2 ≤ x ∧ x ≤ y ∧ x.natAbs ≤ 10 ^ 14 ∧ y.natAbs ≤ 10 ^ 14) => ?_) (tt_ex ?_)
  · obtain ⟨r, e, x, y, rfl, q⟩ := h
    exact ⟨x, y, e, q⟩
  unfold m_parted_by_base
  refine (tt_lft (does_pass2_ok (by omega) hn2)).mpr (Tt.then (P' := fun b _ => b = false) (Tt.neg (by rw [decide_eq_true hp]; decide) ((tt_lft (does_pass_strongly_ok (by omega) hn2)).mpr (tt_pure.mpr (decide_eq_false hs)))) ?_)
  rintro b _ rfl
  refine Tt.neg (by decide) ((tt_lft (halves_of_ok (by omega) hn2)).mpr (tt_bnd.mpr ((tt_lft (power_rest_ok (by omega) hn2 (by omega))).mpr (tt_bnd.mpr ?_))))
  refine Tt.then (P' := fun st _ => ∃ x : Nat, st = (x : Int) ∧ x < n ∧ x * x % n = 1 ∧ x ≠ 1 ∧ x ≠ n - 1) ?_ ?_
  · refine Tt.whI (I := fun j (st : Int) _ => ∃ i : Nat, i + j + 1 = s2 n ∧ st = ((a ^ (2 ^ i * d2 n) % n : Nat) : Int) ∧ a ^ (2 ^ i * d2 n) % n ≠ 1) ?_ many (s2 n - 1) _ _ ⟨0, by omega, by rw [Nat.pow_zero, Nat.one_mul], by rw [Nat.pow_zero, Nat.one_mul]; exact h0⟩ (lt_many (by omega))
    rintro j st s k P ⟨i, hij, rfl, hne⟩ hk
    have hlt : a ^ (2 ^ i * d2 n) % n < n := Nat.mod_lt _ (by omega)
    have hsm := sm_nat (a := a ^ (2 ^ i * d2 n) % n) (by omega)
    refine tt_grd.mpr ⟨⟨hsm, hsm⟩, tt_grd.mpr ⟨by omega, ?_⟩⟩
    rw [mulmod, sq]
    refine hk _ _ (fun ht => ?_) (fun ht => ?_)
    · have hne1 : a ^ (2 ^ (i + 1) * d2 n) % n ≠ 1 := fun e => by rw [e] at ht; exact absurd ht (by decide)
      have hj : j ≠ 0 := by
        rintro rfl
        refine hne1 ?_
        rw [show i + 1 = s2 n by omega, ← s2_spec (by omega)]
        exact hp
      refine tt_grd.mpr ⟨⟨hsm, hsm⟩, tt_grd.mpr ⟨by omega, tt_bnd.mpr (tt_pure.mpr ⟨j - 1, by omega, i + 1, by omega, ?_, hne1⟩)⟩⟩
      rw [mulmod, sq]
    · have he : a ^ (2 ^ (i + 1) * d2 n) % n = 1 := Classical.byContradiction fun z => by
        rw [decide_eq_false (show ¬ ((a ^ (2 ^ (i + 1) * d2 n) % n : Nat) : Int) = 1 by omega)] at ht
        cases ht
      exact ⟨_, rfl, hlt, by rw [sq]; exact he, hne, hi i (by omega)⟩
  · rintro st _ ⟨x, rfl, hx, hsq, h1, h2⟩
    obtain ⟨g1, g2, g3, g4⟩ := sq_parts hn hx hsq h1 h2
    have hx1 : 1 ≤ x := by
      rcases x with _ | x
      · simp at hsq
      · omega
    have e1 : ((x : Int) - 1) = ((x - 1 : Nat) : Int) := by omega
    rw [e1]
    refine (tt_lft (common_divisor_ok (by omega))).mpr (tt_bnd.mpr (tt_grd.mpr ⟨dv_nat (by omega) (by omega), tt_grd.mpr ⟨by simp, tt_bnd.mpr (tt_pure.mpr ?_)⟩⟩))
    generalize Nat.gcd (x - 1) n = g at *
    rw [ndiv]
    have hg5 : n / g ≤ n := Nat.div_le_self _ _
    generalize n / g = h at *
    have hm : (g : Int) * (h : Int) = (n : Int) := by exact_mod_cast g3
    by_cases z : g ≤ h
    · refine ⟨g, h, ?_, hm, by omega, by omega, by omega, by omega⟩
      show ins1 (g : Int) [(h : Int)] = _
      unfold ins1
      rw [if_pos (by omega)]
    · refine ⟨h, g, ?_, by rw [Int.mul_comm]; exact hm, by omega, by omega, by omega, by omega⟩
      show ins1 (g : Int) [(h : Int)] = _
      unfold ins1
      rw [if_neg (by omega)]
      rfl
end Wk
set_option Elab.async false
set_option maxRecDepth 1000000
set_option maxHeartbeats 4000000
set_option linter.all false
/-! A91e: what is gone through -/
namespace Wk
open PySem L2
open PyProof.Rows hiding St
def st2 (n a : Nat) : Bool := match out 2 30 (n - 1) with | (s, d) => Nat.beq (a ^ d % n) 1 || (List.range s).any fun i => Nat.beq (a ^ (2 ^ i * d) % n) (n - 1)
theorem st2_eq {n a : Nat} (hn : 2 ≤ n) (h : n < 2 ^ 30) : st2 n a = decide (Strong n a (s2 n) (d2 n)) := by
  have : st2 n a = true ↔ Strong n a (s2 n) (d2 n) := by
    unfold st2
    rw [out_eq (by decide) 30 (n - 1) (by omega) (by omega)]
    show (Nat.beq (a ^ d2 n % n) 1 || (List.range (s2 n)).any fun i => Nat.beq (a ^ (2 ^ i * d2 n) % n) (n - 1)) = true ↔ _
    rw [Bool.or_eq_true, Nat.beq_eq, List.any_eq_true]
    unfold Strong
    constructor
    · rintro (h | ⟨j, h2, h3⟩)
      · exact .inl h
      · rw [Nat.beq_eq] at h3
        exact .inr ⟨j, List.mem_range.mp h2, h3⟩
    · rintro (h | ⟨j, h2, h3⟩)
      · exact .inl h
      · exact .inr ⟨j, List.mem_range.mpr h2, by rw [Nat.beq_eq]; exact h3⟩
  by_cases z : Strong n a (s2 n) (d2 n)
  · rw [decide_eq_true z]; exact this.mpr z
  · rw [decide_eq_false z]
    cases e : st2 n a with
    | false => rfl
    | true => exact absurd (this.mp e) z
def passesN (n : Nat) : Int := List.sum (((oc n).filter fun x => decide (((n : Int) - 1) % x.1 = 0)).map fun x => x.2)
def due (n : Nat) : Bool := !prB n && (decide ((n - 1) % lam n = 0) && (pf n).all fun y => decide (y.2 ≤ 1))
def cA (n : Nat) : Bool := decide (pn n ≤ 20000) && decide (LOk n) && decide (lam n ≤ 20000) && decide (pk (pf (lam n)) ≤ 500) && decide (passesN n = pn n) && decide (List.sum ((oc n).map fun x => x.2) = rn n)
  && decide (((oc n).map fun x => x.1).max? = some (lam n : Int)) && (asp n == due n) && (due n == (!prB n && decide (passesN n = rn n)))
def cB (n : Nat) : Bool := Nat.beq (n % 2) 0 || ((([2, 3, 5, 7, 11, 13].filter fun b => !decide (b % n = 0) && !decide (n % b = 0)).all fun b => st2 n (b % n)) == prB n) && (prB n || (List.range 100).any fun b => !st2 n (b + 2))
def svq (n : Nat) : List Nat := (pf n).map fun y => (out 2 30 (y.1 - 1)).1
def sgq (n : Nat) : Nat := (pf n).foldl (fun a y => a * Nat.gcd (out 2 30 (n - 1)).2 (y.1 - 1)) 1
def cC (n : Nat) : Bool := Nat.beq (n % 2) 0 || match (svq n).min? with | none => false | some v => decide (v ≤ 20) && Nat.beq (sgq n * (1 + (spw n v).1)) (((List.range n).filter fun b => st2 n b).length)
def nsB : List Nat := (List.range 1500).map (· + 2)
def nsX : List Nat := [561, 1105, 1729, 2465, 2821, 6601, 8911, 10585, 341, 2047, 9, 15]
def pr101 : List Nat := [2, 3, 5, 7, 11, 13, 17, 19, 23, 29, 31, 37, 41, 43, 47, 53, 59, 61, 67, 71, 73, 79, 83, 89, 97, 101]
def pq101 (p : Nat) : Bool := Nat.ble 2 p && pr101.all fun q => Nat.beq p q || !Nat.beq (p % q) 0
def prl : Nat → List Nat
  | 0 => []
  | k + 1 => bif pq101 k then k :: prl k else prl k
def cD (n : Nat) : Bool := (prl n).all fun q => Nat.beq (n % q) 0 || Nat.beq (q ^ lam n % n) 1
def upTo (lo k : Nat) (f : Nat → Bool) : Bool := (List.range k).all fun i => f (lo + i)
theorem upTo_get {lo k n : Nat} {f : Nat → Bool} (h : upTo lo k f = true) (h1 : lo ≤ n) (h2 : n < lo + k) : f n = true := by
  have := List.all_eq_true.mp h (n - lo) (List.mem_range.mpr (by omega))
  rwa [Nat.add_sub_cancel' h1] at this
theorem cA1 : upTo 2 500 cA = true := by decide +kernel
theorem cA2 : upTo 502 300 cA = true := by decide +kernel
theorem cA3 : upTo 802 250 cA = true := by decide +kernel
theorem cA4 : upTo 1052 250 cA = true := by decide +kernel
theorem cA5 : upTo 1302 200 cA = true := by decide +kernel
theorem cAx : nsX.all cA = true := by decide +kernel
theorem cB1 : upTo 2 1500 cB = true := by decide +kernel
theorem cBx : nsX.all cB = true := by decide +kernel
theorem cC1 : upTo 2 398 cC = true := by decide +kernel
theorem cD1 : upTo 2 800 cD = true := by decide +kernel
theorem cD2 : upTo 802 700 cD = true := by decide +kernel
theorem cDx : nsX.all cD = true := by decide +kernel
def asx (x : Nat) : Bool := Nat.beq (2 ^ x % x) 2 && asp x
def kn5 : List Nat := [561, 1105, 1729, 2465, 2821]
theorem cE1 : upTo 3 2999 (fun x => Nat.beq (x % 2) 0 || (asx x == kn5.contains x)) = true := by decide +kernel
theorem cF : asp 1729 = true ∧ asp 294409 = true ∧ ((pf 1729).length ≤ 100 ∧ (pf 294409).length ≤ 100) := by decide +kernel
end Wk
set_option Elab.async false
set_option maxRecDepth 100000
set_option maxHeartbeats 4000000
set_option linter.all false
/-! A91f: the law -/
namespace Wk
open PySem L2
open PyProof.Rows hiding St
/-- what is known of a number -/
structure FN (n : Nat) : Prop where
  n2 : 2 ≤ n
  nB : n ≤ 20000
  pn : pn n ≤ 20000
  lo : LOk n
  lm : lam n ≤ 20000
  pk : pk (pf (lam n)) ≤ 500
  ps : passesN n = Wk.pn n
  sm : List.sum ((oc n).map fun x => x.2) = rn n
  mx : ((oc n).map fun x => x.1).max? = some (lam n : Int)
  ad : asp n = due n
  dp : due n = (!prB n && decide (passesN n = rn n))
  told : n % 2 = 1 → told6 n = prB n
  show1 : n % 2 = 1 → prB n = false → ∃ b, 2 ≤ b ∧ b < 1000 ∧ ¬ Strong n b (s2 n) (d2 n)
  few : n % 2 = 1 → n < 400 → ∃ v, (svp n).min? = some v ∧ v ≤ 20 ∧ sn n v = ((List.range n).filter fun b => decide (Strong n b (s2 n) (d2 n))).length
  od : ∀ a, 0 < a → a < n → Nat.gcd a n = 1 → a ^ lam n % n = 1
theorem prl_mem {q : Nat} (hq : Pr q) : ∀ {n : Nat}, q < n → q ∈ prl n
  | 0, h => absurd h (Nat.not_lt_zero _)
  | n + 1, h => by
    rw [prl]
    by_cases z : q = n
    · subst z
      have : pq101 q = true := by
        unfold pq101
        rw [Bool.and_eq_true, Nat.ble_eq, List.all_eq_true]
        refine ⟨hq.1, fun p hp => ?_⟩
        have hp2 : 2 ≤ p := by
          have : ∀ p ∈ pr101, 2 ≤ p := by decide
          exact this p hp
        rw [Bool.or_eq_true, Nat.beq_eq]
        by_cases y : q % p = 0
        · rcases hq.one (Nat.dvd_of_mod_eq_zero y) with w | w
          · omega
          · exact .inl w.symm
        · right; rw [nbeq y]; rfl
      rw [this]
      exact List.mem_cons_self ..
    · have := prl_mem hq (n := n) (by omega)
      cases pq101 n with
      | true => exact List.mem_cons_of_mem _ this
      | false => exact this
theorem all_orders {n M : Nat} (hn : 2 ≤ n) (h : ∀ q, Pr q → q < n → n % q = 0 ∨ q ^ M % n = 1) : ∀ a, 0 < a → a < n → Nat.gcd a n = 1 → a ^ M % n = 1 := by
  intro a
  induction a using Nat.strongRecOn with
  | _ a ih =>
    intro h0 h1 hg
    by_cases z : a = 1
    · rw [z, Nat.one_pow, Nat.mod_eq_of_lt (by omega)]
    · obtain ⟨q, hq, e⟩ := pr_div a (by omega)
      obtain ⟨c, hc⟩ := Nat.dvd_of_mod_eq_zero e
      have hc0 : 0 < c := Nat.pos_of_ne_zero (by rintro rfl; omega)
      have hq2 := hq.1
      have hca : c < a := by
        have : 2 * c ≤ q * c := Nat.mul_le_mul_right c hq2
        omega
      have hqa : q ≤ a := Nat.le_of_dvd h0 (Nat.dvd_of_mod_eq_zero e)
      have hgq : Nat.gcd q n = 1 := Nat.Coprime.coprime_dvd_left ⟨c, hc⟩ hg
      have hgc : Nat.gcd c n = 1 := Nat.Coprime.coprime_dvd_left ⟨q, by rw [hc, Nat.mul_comm]⟩ hg
      have hqM : q ^ M % n = 1 := by
        rcases h q hq (by omega) with w | w
        · have := Nat.gcd_eq_left (Nat.dvd_of_mod_eq_zero w)
          omega
        · exact w
      have e1 : 1 % n = 1 := Nat.mod_eq_of_lt (by omega)
      rw [hc, Nat.mul_pow, mul_cong (b := 1) (d := 1) (by rw [hqM, e1]) (by rw [ih c hca hc0 (by omega) hgc, e1]), Nat.mul_one, e1]
theorem svq_eq {n : Nat} (hn : 2 ≤ n) (h : n ≤ 20000) : svq n = svp n := by
  unfold svq svp
  apply List.map_congr_left
  intro y hy
  have := pf_low (n := n) (by omega) h y hy
  rw [out_eq (by decide) 30 (y.1 - 1) (by omega) (by omega)]
theorem sgq_eq {n : Nat} (hn : 2 ≤ n) (h : n ≤ 20000) : sgq n = sgc n := by
  unfold sgq sgc
  rw [out_eq (by decide) 30 (n - 1) (by omega) (by omega)]
  rfl
def InN (n : Nat) : Prop := (2 ≤ n ∧ n < 1502) ∨ n ∈ nsX
theorem inN_cA {n : Nat} (h : InN n) : cA n = true := by
  rcases h with ⟨h1, h2⟩ | h
  · by_cases a : n < 502
    · exact upTo_get cA1 h1 a
    by_cases b : n < 802
    · exact upTo_get cA2 (by omega) b
    by_cases c : n < 1052
    · exact upTo_get cA3 (by omega) c
    by_cases d : n < 1302
    · exact upTo_get cA4 (by omega) d
    · exact upTo_get cA5 (by omega) (by omega)
  · exact List.all_eq_true.mp cAx n h
theorem inN_cB {n : Nat} (h : InN n) : cB n = true := by
  rcases h with ⟨h1, h2⟩ | h
  · exact upTo_get cB1 h1 (by omega)
  · exact List.all_eq_true.mp cBx n h
theorem inN_cD {n : Nat} (h : InN n) : cD n = true := by
  rcases h with ⟨h1, h2⟩ | h
  · by_cases a : n < 802
    · exact upTo_get cD1 h1 a
    · exact upTo_get cD2 (by omega) (by omega)
  · exact List.all_eq_true.mp cDx n h
theorem inN_le {n : Nat} (h : InN n) : 2 ≤ n ∧ n ≤ 20000 := by
  rcases h with ⟨h1, h2⟩ | h
  · omega
  · have : ∀ n ∈ nsX, 2 ≤ n ∧ n ≤ 20000 := by decide
    exact this n h
theorem inN_cC {n : Nat} (h : InN n) (h4 : n < 400) : cC n = true := upTo_get cC1 (inN_le h).1 (by omega)
theorem fn_of {n : Nat} (h : InN n) : FN n := by
  obtain ⟨h2, hB⟩ := inN_le h
  have a := inN_cA h
  unfold cA at a
  simp only [Bool.and_eq_true, decide_eq_true_eq, beq_iff_eq] at a
  obtain ⟨⟨⟨⟨⟨⟨⟨⟨a1, a2⟩, a3⟩, a4⟩, a5⟩, a6⟩, a7⟩, a8⟩, a9⟩ := a
  have b := inN_cB h
  unfold cB at b
  refine ⟨h2, hB, a1, a2, a3, a4, a5, a6, a7, a8, a9, fun ho => ?_, fun ho hp => ?_, fun ho h4 => ?_, ?_⟩
  · have hne : Nat.beq (n % 2) 0 = false := nbeq (by omega)
    rw [hne, Bool.false_or, Bool.and_eq_true, beq_iff_eq] at b
    rw [← b.1]
    unfold told6
    apply all_congr_mem
    intro x _
    rw [st2_eq h2 (by omega)]
  · have hne : Nat.beq (n % 2) 0 = false := nbeq (by omega)
    rw [hne, Bool.false_or, Bool.and_eq_true, hp, Bool.false_or] at b
    obtain ⟨x, hx, e⟩ := List.any_eq_true.mp b.2
    have hx := List.mem_range.mp hx
    rw [st2_eq h2 (by omega)] at e
    refine ⟨x + 2, by omega, by omega, fun hs => ?_⟩
    rw [decide_eq_true hs] at e
    cases e
  · have c := inN_cC h h4
    unfold cC at c
    have hne : Nat.beq (n % 2) 0 = false := nbeq (by omega)
    rw [hne, Bool.false_or, svq_eq h2 hB] at c
    cases e : (svp n).min? with
    | none => rw [e] at c; cases c
    | some v =>
      rw [e] at c
      have c : (decide (v ≤ 20) && Nat.beq (sgq n * (1 + (spw n v).1)) (((List.range n).filter fun b => st2 n b).length)) = true := c
      rw [Bool.and_eq_true, decide_eq_true_eq, Nat.beq_eq, sgq_eq h2 hB] at c
      refine ⟨v, rfl, c.1, ?_⟩
      unfold sn
      rw [c.2]
      congr 1
      apply List.filter_congr
      intro b _
      exact st2_eq h2 (by omega)
  · refine all_orders h2 fun q hq hqn => ?_
    have := List.all_eq_true.mp (inN_cD h) q (prl_mem hq hqn)
    rw [Bool.or_eq_true, Nat.beq_eq, Nat.beq_eq] at this
    exact this
theorem prB_isp {n : Nat} (h : FN n) : isp n = prB n := by
  have h2 := h.n2
  have hB := h.nB
  cases e : isp n with
  | true => exact ((prB_iff (by omega) (by omega)).mpr (ip4 (by omega) h.nB (Nat.dvd_refl _) e)).symm
  | false =>
    cases e2 : prB n with
    | false => rfl
    | true =>
      rw [isp_prime ((prB_iff (by omega) (by omega)).mp e2)] at e
      cases e
theorem dec_prime {n : Nat} : decide (pfi (pf n) = ([((n : Int), (1 : Int))] : List (Int × Int))) = prB n := by
  unfold prB
  refine decide_eq_decide.mpr ⟨fun h => ?_, fun h => by rw [h]; rfl⟩
  cases e : pf n with
  | nil => rw [e] at h; cases h
  | cons y l =>
    rw [e] at h
    cases l with
    | cons z l => simp [pfi] at h
    | nil =>
      have h : ((y.1 : Int), (y.2 : Int)) = ((n : Int), (1 : Int)) := by
        have := congrArg List.head? h
        exact Option.some.inj this
      have h1 : (y.1 : Int) = (n : Int) := congrArg Prod.fst h
      have h3 : (y.2 : Int) = 1 := congrArg Prod.snd h
      have hy : y = (n, 1) := Prod.ext (by show y.1 = n; omega) (by show y.2 = 1; omega)
      rw [hy]
theorem no_twice {n : Nat} : decide ((List.map (fun x : Int × Int => x.2) (List.filter (fun x : Int × Int => (decide ((1 : Int) < x.2))) (pfi (pf n)))) = ([] : List Int)) = (pf n).all fun y => decide (y.2 ≤ 1) := by
  have : ∀ l : List (Nat × Nat), decide ((List.map (fun x : Int × Int => x.2) (List.filter (fun x : Int × Int => (decide ((1 : Int) < x.2))) (pfi l))) = ([] : List Int)) = l.all fun y => decide (y.2 ≤ 1) := by
    intro l
    induction l with
    | nil => rfl
    | cons y l ih =>
      rw [List.all_cons]
      show decide ((List.map _ (List.filter _ (((y.1 : Int), (y.2 : Int)) :: pfi l))) = []) = _
      by_cases z : y.2 ≤ 1
      · rw [List.filter_cons_of_neg (by simp; omega), decide_eq_true z, Bool.true_and, ih]
      · rw [List.filter_cons_of_pos (by simp; omega), decide_eq_false z, Bool.false_and]
        rfl
  exact this (pf n)
theorem ok_ints {l : List Int} (hl : l.length ≤ 10) (h : ∀ x ∈ l, x.natAbs ≤ 10 ^ 30) : OkD (PyData.list (l.map PyData.int)) :=
  (shp_list (D := 0) (B := 50) (n := 10) (by rw [List.length_map]; exact hl) (shp_map fun a ha => shp_int (by have := h a ha; omega))).ok (by decide) (by decide)
theorem ok_bools {l : List Bool} (hl : l.length ≤ 10) : OkD (PyData.list (l.map PyData.bool)) :=
  (shp_list (D := 0) (B := 50) (n := 10) (by rw [List.length_map]; exact hl) (shp_map fun a ha => shp_bool)).ok (by decide) (by decide)
theorem ok_bool {b : Bool} : OkD (PyData.bool b) := (shp_bool (b := b)).ok (by decide) (by decide)
theorem rp2 {α : Type} {n : Nat} (h : n ≤ 1000) : RpB n 2 := ⟨by decide, by decide, by show n * 2 ≤ _; omega⟩
theorem tail_ok {n a : Nat} (h : FN n) (ha : a < n) {s : PotT} {P : Ctl Bool Unit → PotT → Prop} (hP : P (.go ()) s) : Tt s
    (      (Mir.lft (m_order_counts (n : Int)) >>= fun r698 => bnd r698 fun counts232 =>
      Mir.lft (grd (List.length counts232 ≤ 16000000)) >>= fun _ => cmp counts232 (fun x242 => Mir.lft (grd (0 < x242.1)) >>= fun _ => if (decide ((((n : Int) - (1 : Int)) % x242.1) = (0 : Int))) = true then pure (some x242.2) else pure none) >>= fun l697 => bnd (List.sum l697) fun passes245 =>
      Mir.lft (m_passes_number (n : Int)) >>= fun r694 => Mir.lft (m_passes_number (n : Int)) >>= fun r695 => Mir.lft (grd (List.length ([r694, r695] : List Int) ≤ 16000000)) >>= fun _ => bnd (PyData.list (List.map PyData.int ([r694, r695] : List Int))) fun d693 => Mir.lft (grd (OkD d693)) >>= fun _ => Mir.lft (grd (List.length ([passes245] : List Int) ≤ 16000000)) >>= fun _ => Mir.lft (grd (RpB (List.length ([passes245] : List Int)) (2 : Int))) >>= fun _ => bnd (PyData.list (List.map PyData.int (List.replicate (Int.toNat (2 : Int)) ([passes245] : List Int)).flatten)) fun d696 => Mir.lft (grd (OkD d696)) >>= fun _ => Mir.lft (grP (d693 = d696)) >>= fun _ => if false = true then
      (bnd false fun r269 => pure (Ctl.ret r269))
      else
      (Mir.lft (grd (List.length counts232 ≤ 16000000)) >>= fun _ => Mir.lft (m_rests_number (n : Int)) >>= fun r692 => if (!decide ((List.sum (List.map (fun x279 => x279.2) counts232)) = r692)) = true then
      (bnd false fun r296 => pure (Ctl.ret r296))
      else
      (Mir.lft (grd (List.length counts232 ≤ 16000000)) >>= fun _ => Mir.lft (List.max? (List.map (fun x306 => x306.1) counts232)) >>= fun y690 => Mir.lft (m_greatest_order (n : Int)) >>= fun r691 => if (!decide (y690 = r691)) = true then
      (bnd false fun r323 => pure (Ctl.ret r323))
      else
      (Mir.lft (grd (List.length ([((n : Int), (1 : Int))] : List (Int × Int)) ≤ 16000000)) >>= fun _ => bnd (decide ((pfi (pf n)) = ([((n : Int), (1 : Int))] : List (Int × Int)))) fun prime333 =>
      (if (!prime333) = true then Mir.lft (m_greatest_order (n : Int)) >>= fun r689 => Mir.lft (grd (0 < r689)) >>= fun _ => (if (decide ((((n : Int) - (1 : Int)) % r689) = (0 : Int))) = true then Mir.lft (grd (List.length (pfi (pf n)) ≤ 16000000)) >>= fun _ => Mir.lft (grd (List.length ([] : List Int) ≤ 16000000)) >>= fun _ => pure (decide ((List.map (fun x343 => x343.2) (List.filter (fun x343 => (decide ((1 : Int) < x343.2))) (pfi (pf n)))) = ([] : List Int))) else pure false) >>= fun b688 => pure b688 else pure false) >>= fun b687 => bnd b687 fun due346 =>
      Mir.lft (m_is_as_prime (n : Int)) >>= fun r683 => Mir.lft (m_is_as_prime (n : Int)) >>= fun r684 => Mir.lft (m_is_prime_number (n : Int)) >>= fun r685 => Mir.lft (grd (List.length ([r683, r684, r685] : List Bool) ≤ 16000000)) >>= fun _ => bnd (PyData.list (List.map PyData.bool ([r683, r684, r685] : List Bool))) fun d682 => Mir.lft (grd (OkD d682)) >>= fun _ => Mir.lft (grd (List.length ([due346, due346, prime333] : List Bool) ≤ 16000000)) >>= fun _ => bnd (PyData.list (List.map PyData.bool ([due346, due346, prime333] : List Bool))) fun d686 => Mir.lft (grd (OkD d686)) >>= fun _ => Mir.lft (grP (d682 = d686)) >>= fun _ => if false = true then
      (bnd false fun r370 => pure (Ctl.ret r370))
      else
      ((if (!prime333) = true then Mir.lft (m_rests_number (n : Int)) >>= fun r681 => pure (decide (passes245 = r681)) else pure false) >>= fun b680 => if (!decide (due346 = b680)) = true then
      (bnd false fun r394 => pure (Ctl.ret r394))
      else
      (Mir.lft (grd (0 < (2 : Int))) >>= fun _ => if (decide (((n : Int) % (2 : Int)) = (1 : Int))) = true then
      (Mir.lft (m__law_strong (n : Int) (a : Int)) >>= fun r672 => bnd r672 fun strong411 =>
      Mir.lft (m_does_pass_strongly (n : Int) (a : Int)) >>= fun r669 => Mir.lft (m_does_pass_strongly (n : Int) (a : Int)) >>= fun r670 => Mir.lft (grd (List.length ([r669, r670] : List Bool) ≤ 16000000)) >>= fun _ => bnd (PyData.list (List.map PyData.bool ([r669, r670] : List Bool))) fun d668 => Mir.lft (grd (OkD d668)) >>= fun _ => Mir.lft (grd (List.length ([strong411, strong411] : List Bool) ≤ 16000000)) >>= fun _ => bnd (PyData.list (List.map PyData.bool ([strong411, strong411] : List Bool))) fun d671 => Mir.lft (grd (OkD d671)) >>= fun _ => Mir.lft (grP (d668 = d671)) >>= fun _ => if false = true then
      (bnd false fun r435 => pure (Ctl.ret r435))
      else
      ((if (decide ((n : Int) < (400 : Int))) = true then Mir.lft (m_strong_number (n : Int)) >>= fun r666 => Mir.lft (grd (RgB (n : Int))) >>= fun _ => Mir.lft (grd (List.length (rng 0 (n : Int)) ≤ 16000000)) >>= fun _ => cmp (rng 0 (n : Int)) (fun x445 => Mir.lft (m__law_strong (n : Int) x445) >>= fun r448 => if r448 = true then pure (some x445) else pure none) >>= fun l667 => pure (!decide (r666 = (List.length l667 : Int))) else pure false) >>= fun b665 => if b665 = true then
      (bnd false fun r464 => pure (Ctl.ret r464))
      else
      ((if (strong411 && (!decide (((a ^ (n - 1) % n : Nat) : Int) = (1 : Int)))) = true then pure true else Mir.lft (m_is_prime_told (n : Int)) >>= fun r663 => bnd (PyData.bool r663) fun d662 => Mir.lft (grd (OkD d662)) >>= fun _ => bnd (PyData.bool prime333) fun d664 => Mir.lft (grd (OkD d664)) >>= fun _ => Mir.lft (grP (d662 = d664)) >>= fun _ => pure false) >>= fun b661 => if b661 = true then
      (bnd false fun r488 => pure (Ctl.ret r488))
      else
      (if ((decide (((a ^ (n - 1) % n : Nat) : Int) = (1 : Int))) && (!strong411)) = true then
      (Mir.lft (m_parted_by_base (n : Int) (a : Int)) >>= fun r596 => Mir.lft (two? r596) >>= fun y595 => bnd y595 fun t505 =>
      Mir.lft (grd (Sm t505.1 ∧ Sm t505.2)) >>= fun _ => if ((!decide ((t505.1 * t505.2) = (n : Int))) || ((decide (t505.1 < (2 : Int))) || (decide (t505.2 < t505.1)))) = true then
      (bnd false fun r528 => pure (Ctl.ret r528))
      else
      (if (!prime333) = true then
      (Mir.lft (m_least_showing (n : Int)) >>= fun r587 => bnd r587 fun least545 =>
      Mir.lft (m__law_strong (n : Int) least545) >>= fun r585 => (if r585 = true then pure true else Mir.lft (grd (RgB (2 : Int) ∧ RgB least545)) >>= fun _ => Mir.lft (grd (List.length (rng (2 : Int) least545) ≤ 16000000)) >>= fun _ => cmp (rng (2 : Int) least545) (fun x555 => Mir.lft (m__law_strong (n : Int) x555) >>= fun r558 => if (!r558) = true then pure (some x555) else pure none) >>= fun l586 => Mir.lft (grd (List.length ([] : List Int) ≤ 16000000)) >>= fun _ => pure (!decide (l586 = ([] : List Int)))) >>= fun b584 => if b584 = true then
      (bnd false fun r574 => pure (Ctl.ret r574))
      else
      (pure (Ctl.go ())))
      else
      (pure (Ctl.go ()))))
      else
      (if (!prime333) = true then
      (Mir.lft (m_least_showing (n : Int)) >>= fun r653 => bnd r653 fun least611 =>
      Mir.lft (m__law_strong (n : Int) least611) >>= fun r651 => (if r651 = true then pure true else Mir.lft (grd (RgB (2 : Int) ∧ RgB least611)) >>= fun _ => Mir.lft (grd (List.length (rng (2 : Int) least611) ≤ 16000000)) >>= fun _ => cmp (rng (2 : Int) least611) (fun x621 => Mir.lft (m__law_strong (n : Int) x621) >>= fun r624 => if (!r624) = true then pure (some x621) else pure none) >>= fun l652 => Mir.lft (grd (List.length ([] : List Int) ≤ 16000000)) >>= fun _ => pure (!decide (l652 = ([] : List Int)))) >>= fun b650 => if b650 = true then
      (bnd false fun r640 => pure (Ctl.ret r640))
      else
      (pure (Ctl.go ())))
      else
      (pure (Ctl.go ())))))))
      else
      (pure (Ctl.go ())))))))) : PM PotT (Ctl Bool Unit)) P := by
  have h2 := h.n2
  have hB := h.nB
  obtain ⟨ho, hol, hop⟩ := order_counts_ok h2 hB h.lo h.lm h.pk
  obtain ⟨hg, hg0⟩ := greatest_order_ok h2 hB h.lo
  have hlow := pf_low (n := n) (by omega) hB
  have hlen := pf_len (n := n) (by omega) hB
  have e1 : ((n : Int) - 1) = ((n - 1 : Nat) : Int) := by omega
  refine (tt_lft ho).mpr (tt_bnd.mpr (tt_grd.mpr ⟨by omega, tt_filterMap (g := fun x => if decide (((n : Int) - 1) % x.1 = 0) = true then some x.2 else none) (fun x hx s Q hQ => ?_) ?_⟩))
  · refine tt_grd.mpr ⟨hop x hx, ?_⟩
    by_cases c : decide (((n : Int) - 1) % x.1 = 0) = true
    · rw [if_pos c] at hQ; exact Tt.pos c (tt_pure.mpr hQ)
    · rw [if_neg c] at hQ; exact Tt.neg c (tt_pure.mpr hQ)
  rw [filt_map]
  show Tt s (bnd (passesN n) _) P
  rw [h.ps]
  have hpn := h.pn
  refine tt_bnd.mpr ((tt_lft (passes_number_ok h2 hB)).mpr ((tt_lft (passes_number_ok h2 hB)).mpr (tt_grd.mpr ⟨by simp, tt_bnd.mpr (tt_grd.mpr ⟨ok_ints (by simp) (by simp; omega), tt_grd.mpr ⟨by simp, tt_grd.mpr ⟨rp2 (α := Int) (by simp), tt_bnd.mpr (tt_grd.mpr ⟨ok_ints (show 2 ≤ 10 by decide) (by simp; omega), tt_grP.mpr ⟨rfl, Tt.neg (by decide) ?_⟩⟩)⟩⟩⟩)⟩)))
  refine tt_grd.mpr ⟨by omega, (tt_lft (rests_number_ok h2 hB h.lo)).mpr (Tt.neg (by rw [h.sm, decide_eq_true rfl]; decide) (tt_grd.mpr ⟨by omega, (tt_lft h.mx).mpr ((tt_lft hg).mpr (Tt.neg (by rw [decide_eq_true rfl]; decide) (tt_grd.mpr ⟨by simp, tt_bnd.mpr ?_⟩)))⟩))⟩
  rw [dec_prime]
  refine Tt.then (P' := fun b s1 => b = due n ∧ s1 = s) ?_ ?_
  · unfold due
    cases hp : prB n with
    | true => exact Tt.neg (by decide) (tt_pure.mpr ⟨rfl, rfl⟩)
    | false =>
      refine Tt.pos (by decide) ((tt_lft hg).mpr (tt_grd.mpr ⟨by omega, Tt.then (P' := fun b s1 => b = (decide ((n - 1) % lam n = 0) && (pf n).all fun y => decide (y.2 ≤ 1)) ∧ s1 = s) ?_ ?_⟩))
      · rw [e1, nmod]
        by_cases c : (n - 1) % lam n = 0
        · refine Tt.pos (by rw [decide_eq_true_iff]; omega) (tt_grd.mpr ⟨by rw [pfi_len]; omega, tt_grd.mpr ⟨by simp, tt_pure.mpr ⟨?_, rfl⟩⟩⟩)
          rw [no_twice, decide_eq_true c, Bool.true_and]
        · refine Tt.neg (by rw [decide_eq_true_iff]; omega) (tt_pure.mpr ⟨?_, rfl⟩)
          rw [decide_eq_false c, Bool.false_and]
      · rintro b s1 ⟨rfl, rfl⟩
        exact tt_pure.mpr ⟨rfl, rfl⟩
  rintro b s1 ⟨rfl, rfl⟩
  have hasp := is_as_prime_ok' h2 (po (by omega) hB) (fun y hy => by have := hlow y hy; omega) (by omega)
  rw [h.ad] at hasp
  have hisp : m_is_prime_number n = some (prB n) := by rw [is_prime_number_ok (by omega), prB_isp h]
  refine tt_bnd.mpr ((tt_lft hasp).mpr ((tt_lft hasp).mpr ((tt_lft hisp).mpr (tt_grd.mpr ⟨by simp, tt_bnd.mpr (tt_grd.mpr ⟨ok_bools (by simp), tt_grd.mpr ⟨by simp, tt_bnd.mpr (tt_grd.mpr ⟨ok_bools (by simp), tt_grP.mpr ⟨rfl, Tt.neg (by decide) ?_⟩⟩)⟩⟩)⟩))))
  refine Tt.then (P' := fun b s2 => b = due n ∧ s2 = s1) ?_ ?_
  · rw [h.dp, h.ps]
    cases hp : prB n with
    | true => exact Tt.neg (by decide) (tt_pure.mpr ⟨rfl, rfl⟩)
    | false => exact Tt.pos (by decide) ((tt_lft (rests_number_ok h2 hB h.lo)).mpr (tt_pure.mpr ⟨by simp, rfl⟩))
  rintro b s2' ⟨rfl, rfl⟩
  refine Tt.neg (by rw [decide_eq_true rfl]; decide) (tt_grd.mpr ⟨by decide, ?_⟩)
  by_cases hodd : n % 2 = 1
  · refine Tt.pos (by rw [decide_eq_true_iff]; omega) ?_
    refine (tt_lft (law_strong_ok h2 (by omega))).mpr (tt_bnd.mpr ((tt_lft (does_pass_strongly_ok h2 (by omega))).mpr ((tt_lft (does_pass_strongly_ok h2 (by omega))).mpr (tt_grd.mpr ⟨by simp, tt_bnd.mpr (tt_grd.mpr ⟨ok_bools (by simp), tt_grd.mpr ⟨by simp, tt_bnd.mpr (tt_grd.mpr ⟨ok_bools (by simp), tt_grP.mpr ⟨rfl, Tt.neg (by decide) ?_⟩⟩)⟩⟩)⟩))))
    refine Tt.then (P' := fun b s2 => b = false ∧ s2 = s2') ?_ ?_
    · by_cases h4 : n < 400
      · obtain ⟨v, hv1, hv2, hv3⟩ := h.few hodd h4
        refine Tt.pos (by rw [decide_eq_true_iff]; omega) ((tt_lft (strong_number_ok h2 hB hv1 hv2)).mpr (tt_grd.mpr ⟨⟨by omega, by omega⟩, tt_grd.mpr ⟨by rw [rng_len]; omega, ?_⟩⟩))
        refine tt_filterMap (g := fun x : Int => if decide (Strong n x.toNat (s2 n) (d2 n)) = true then some x else none) (fun x hx s Q hQ => ?_) (tt_pure.mpr ⟨?_, rfl⟩)
        · have hx := mem_rng.mp hx
          obtain ⟨y, rfl⟩ : ∃ y : Nat, x = y := ⟨x.toNat, by omega⟩
          refine (tt_lft (law_strong_ok h2 (by omega))).mpr ?_
          rw [Int.toNat_natCast] at hQ
          by_cases c : decide (Strong n y (s2 n) (d2 n)) = true
          · rw [if_pos c] at hQ; exact Tt.pos c (tt_pure.mpr hQ)
          · rw [if_neg c] at hQ; exact Tt.neg c (tt_pure.mpr hQ)
        · rw [hv3, filt_map6 (f := fun x : Int => decide (Strong n x.toNat (s2 n) (d2 n))) (g := fun x => x), List.length_map]
          have : rng 0 (n : Int) = (List.range n).map fun x : Nat => (x : Int) := by
            unfold rng
            rw [show ((n : Int) - 0).toNat = n by omega]
            apply List.map_congr_left
            intro x _
            omega
          rw [this, List.filter_map, List.length_map]
          have e5 : ((fun x : Int => decide (Strong n x.toNat (s2 n) (d2 n))) ∘ fun x : Nat => (x : Int)) = fun b => decide (Strong n b (s2 n) (d2 n)) := by
            funext b
            show decide (Strong n (b : Int).toNat (s2 n) (d2 n)) = _
            rw [Int.toNat_natCast]
          rw [e5, decide_eq_true rfl]; rfl
      · exact Tt.neg (by rw [decide_eq_true_iff]; omega) (tt_pure.mpr ⟨rfl, rfl⟩)
    rintro b s3 ⟨rfl, rfl⟩
    refine Tt.neg (by decide) ?_
    have hsp : Strong n a (s2 n) (d2 n) → a ^ (n - 1) % n = 1 := fun hs => strong_pass h2 (s2_spec h2) hs
    refine Tt.then (P' := fun b s2 => b = false ∧ s2 = s3) ?_ ?_
    · refine Tt.neg ?_ ((tt_lft (is_prime_told_ok h2 (by omega))).mpr (tt_bnd.mpr (tt_grd.mpr ⟨ok_bool, tt_bnd.mpr (tt_grd.mpr ⟨ok_bool, tt_grP.mpr ⟨by rw [h.told hodd], tt_pure.mpr ⟨rfl, rfl⟩⟩⟩)⟩)))
      rw [Bool.and_eq_true, decide_eq_true_eq, Bool.not_eq_true']
      rintro ⟨hs, hr⟩
      rw [hsp hs] at hr
      cases hr
    rintro b s4 ⟨rfl, rfl⟩
    refine Tt.neg (by decide) ?_
    -- bases that show
    have hshow : ∀ {k : Ctl Bool Unit}, k = .go () → Tt s4 (if (!prB n) = true then
        (Mir.lft (m_least_showing n) >>= fun r => bnd r fun least =>
        Mir.lft (m__law_strong n least) >>= fun r585 => (if r585 = true then pure true else Mir.lft (grd (RgB (2 : Int) ∧ RgB least)) >>= fun _ => Mir.lft (grd (List.length (rng (2 : Int) least) ≤ 16000000)) >>= fun _ => cmp (rng (2 : Int) least) (fun x555 => Mir.lft (m__law_strong n x555) >>= fun r558 => if (!r558) = true then pure (some x555) else pure none) >>= fun l586 => Mir.lft (grd (List.length ([] : List Int) ≤ 16000000)) >>= fun _ => pure (!decide (l586 = ([] : List Int)))) >>= fun b584 => if b584 = true then
        (bnd false fun r574 => pure (Ctl.ret r574))
        else
        (pure (Ctl.go ()) : PM PotT (Ctl Bool Unit)))
        else
        (pure (Ctl.go ()))) P := by
      intro k hk
      cases hp : prB n with
      | true => exact Tt.neg (by decide) (tt_pure.mpr hP)
      | false =>
        obtain ⟨bb, eb, b2, b3, b4, b5⟩ := least_showing_ok h2 (by omega) (by rw [prB_isp h, hp]) (h.show1 hodd hp)
        refine Tt.pos (by decide) ((tt_lft eb).mpr (tt_bnd.mpr ((tt_lft (law_strong_ok h2 (by omega))).mpr (Tt.then (P' := fun b s2 => b = false ∧ s2 = s4) ?_ ?_))))
        · refine Tt.neg (by rw [decide_eq_true_eq]; exact b4) (tt_grd.mpr ⟨⟨⟨by decide, by decide⟩, ⟨by omega, by omega⟩⟩, tt_grd.mpr ⟨by rw [rng_len]; omega, ?_⟩⟩)
          refine tt_filterMap (g := fun _ : Int => (none : Option Int)) (fun x hx s Q hQ => ?_) (tt_grd.mpr ⟨by simp, tt_pure.mpr ⟨?_, rfl⟩⟩)
          · have hx := mem_rng.mp hx
            obtain ⟨y, rfl⟩ : ∃ y : Nat, x = y := ⟨x.toNat, by omega⟩
            exact (tt_lft (law_strong_ok h2 (by omega))).mpr (Tt.neg (by rw [decide_eq_true (b5 y (by omega) (by omega))]; decide) (tt_pure.mpr hQ))
          · have : ∀ l : List Int, l.filterMap (fun _ : Int => (none : Option Int)) = [] := by
              intro l
              induction l with
              | nil => rfl
              | cons x l ih => rw [List.filterMap_cons]; exact ih
            rw [this]; rfl
        · rintro b s5 ⟨rfl, rfl⟩
          exact Tt.neg (by decide) (tt_pure.mpr hP)
    by_cases hcase : a ^ (n - 1) % n = 1 ∧ ¬ Strong n a (s2 n) (d2 n)
    · obtain ⟨hr, hs⟩ := hcase
      refine Tt.pos (by rw [hr, decide_eq_false hs]; decide) ?_
      obtain ⟨x, y, ep, p1, p2, p3, p4, p5⟩ := parted_ok (by omega) (by omega) hodd hr hs
      refine (tt_lft ep).mpr ((tt_lft (show two? [x, y] = some (x, y) from rfl)).mpr (tt_bnd.mpr (tt_grd.mpr ⟨⟨sm_small (by show x.natAbs ≤ _; omega), sm_small (by show y.natAbs ≤ _; omega)⟩, Tt.neg ?_ (hshow rfl)⟩)))
      rw [Bool.or_eq_true, Bool.or_eq_true, decide_eq_true_iff, decide_eq_true_iff, Bool.not_eq_true', decide_eq_false_iff_not]
      show ¬ (¬ x * y = (n : Int) ∨ x < 2 ∨ y < x)
      rintro (q | q | q)
      · exact q p1
      · omega
      · omega
    · refine Tt.neg ?_ (hshow rfl)
      rw [Bool.and_eq_true, decide_eq_true_eq, Bool.not_eq_true', decide_eq_false_iff_not]
      rintro ⟨q1, q2⟩
      exact hcase ⟨by omega, q2⟩
  · exact Tt.neg (by rw [decide_eq_true_iff]; omega) (tt_pure.mpr hP)
end Wk
set_option Elab.async false
set_option maxRecDepth 100000
set_option maxHeartbeats 4000000
set_option linter.all false
/-! A91g: the law, whole -/
namespace Wk
open PySem L2
open PyProof.Rows hiding St
theorem three_factors_ok {k : Nat} (hk : k ≤ 10 ^ 12) : m_three_factors k = some (6 * (k : Int) + 1, 12 * (k : Int) + 1, 18 * (k : Int) + 1) := by
  unfold m_three_factors
  have h := sm_nat (a := k) (by omega)
  exact tt_eq (tt_grd.mpr ⟨⟨sm_small (by decide), h⟩, tt_grd.mpr ⟨⟨sm_small (by decide), h⟩, tt_grd.mpr ⟨⟨sm_small (by decide), h⟩, tt_bnd.mpr (tt_pure.mpr rfl)⟩⟩⟩)
theorem asx_odd {x : Nat} (h1 : 3 ≤ x) (h2 : x < 3002) (h3 : x % 2 = 1) : asx x = kn5.contains x := by
  have := upTo_get cE1 h1 (by omega)
  have hne : Nat.beq (x % 2) 0 = false := nbeq (by omega)
  rw [Bool.or_eq_true] at this
  rcases this with z | z
  · rw [hne] at z; cases z
  · exact eq_of_beq z
def knI : List Int := [561, 1105, 1729, 2465, 2821, 6601, 8911, 10585]
theorem as_primes_ok {m : Nat} (hm : m ≤ 3000) : m_as_primes_to m = some (knI.filter fun x => decide (x ≤ (m : Int))) := by
  unfold m_as_primes_to
  have hmem : ∀ x, x ∈ rng3 3 ((m : Int) + 1) 2 → ∃ y : Nat, x = y ∧ 3 ≤ y ∧ y ≤ m ∧ y % 2 = 1 := fun x hx => by
    obtain ⟨k, e, hk⟩ := (mem_rng3 (by decide)).mp hx
    exact ⟨x.toNat, by omega, by omega, by omega, by omega⟩
  have hl : (rng3 3 ((m : Int) + 1) 2).length ≤ 16000000 := by
    unfold rng3
    rw [List.length_map, List.length_range, rs_pos (by decide)]
    split <;> omega
  refine tt_eq (tt_grd.mpr ⟨rg3_ok (by decide) (by decide) (by decide) (by decide) (by omega) (by omega), tt_grd.mpr ⟨hl, ?_⟩⟩)
  refine tt_filterMap (g := fun x : Int => if asx x.toNat = true then some x else none) (fun x hx s Q hQ => ?_) (tt_bnd.mpr (tt_pure.mpr ?_))
  · obtain ⟨y, rfl, h1, h2, h3⟩ := hmem x hx
    rw [Int.toNat_natCast] at hQ
    refine (tt_lft (power_rest_ok (a := 2) (e := y) (m := y) (by omega) (by omega) (by omega))).mpr (Tt.then (P' := fun b s1 => b = asx y ∧ s1 = s) ?_ ?_)
    · unfold asx
      by_cases z : 2 ^ y % y = 2
      · refine Tt.pos (by rw [decide_eq_true_iff]; omega) ?_
        have hlow := pf_low (n := y) (by omega) (by omega)
        have hlen := pf_len (n := y) (by omega) (by omega)
        refine (tt_lft (is_as_prime_ok' (by omega) (po (by omega) (by omega)) (fun w hw => by have := hlow w hw; omega) (by omega))).mpr (tt_pure.mpr ⟨?_, rfl⟩)
        rw [z]; rfl
      · refine Tt.neg (by rw [decide_eq_true_iff]; omega) (tt_pure.mpr ⟨?_, rfl⟩)
        rw [nbeq z]; rfl
    · rintro b s1 ⟨rfl, rfl⟩
      by_cases c : asx y = true
      · rw [if_pos c] at hQ; exact Tt.pos c (tt_pure.mpr hQ)
      · rw [if_neg c] at hQ; exact Tt.neg c (tt_pure.mpr hQ)
  · rw [filt_map6 (f := fun x : Int => asx x.toNat) (g := fun x => x), List.map_id']
    refine asc_eq ((rng3_asc (by decide)).filter _) (List.Pairwise.filter _ (by decide)) fun x => ?_
    rw [List.mem_filter, List.mem_filter, decide_eq_true_iff]
    constructor
    · rintro ⟨hx, hp⟩
      obtain ⟨y, rfl, h1, h2, h3⟩ := hmem x hx
      rw [Int.toNat_natCast, asx_odd h1 (by omega) h3, List.contains_iff_mem] at hp
      refine ⟨?_, by omega⟩
      have : ∀ y ∈ kn5, (y : Int) ∈ knI := by decide
      exact this y hp
    · rintro ⟨hx, hle⟩
      have hk : x ∈ knI → x ≤ 3000 → ∃ y : Nat, x = y ∧ 3 ≤ y ∧ y % 2 = 1 ∧ y ∈ kn5 := by
        intro hx hle
        have : ∀ x ∈ knI, x ≤ 3000 → 3 ≤ x.toNat ∧ x.toNat % 2 = 1 ∧ x.toNat ∈ kn5 ∧ 0 ≤ x := by decide
        obtain ⟨a1, a2, a3, a4⟩ := this x hx hle
        exact ⟨x.toNat, by omega, a1, a2, a3⟩
      obtain ⟨y, rfl, h1, h2, h3⟩ := hk hx (by omega)
      refine ⟨(mem_rng3 (by decide)).mpr ⟨(y - 3) / 2, by omega, by omega⟩, ?_⟩
      rw [Int.toNat_natCast, asx_odd h1 (by omega) h2, List.contains_iff_mem]
      exact h3
theorem ok_trip {a b c : Int} (h1 : a.natAbs ≤ 10 ^ 30) (h2 : b.natAbs ≤ 10 ^ 30) (h3 : c.natAbs ≤ 10 ^ 30) : Shp 1 159 (PyData.tuple [PyData.int a, PyData.int b, PyData.int c]) :=
  shp_tup (D := 0) (B := 50) (n := 3) (by simp) (Shp.lc (shp_int (by omega)) (Shp.lc (shp_int (by omega)) (Shp.l1 (shp_int (by omega)))))
theorem known_ok {s : PotT} {b : Nat} (h : Pot s (b + 4)) : Tt s (m__law_are_known_right knI) fun a _ => a = true := by
  unfold m__law_are_known_right
  refine tt_grd.mpr ⟨by simp, (one_ok h (by simp) (by simp)).then fun r s1 ⟨hr, hp1⟩ => ?_⟩
  have hr2 : r = 600 ∨ r = 3000 := by simpa using hr
  refine (of_ok hp1 (by omega) (Int.lt_of_le_of_lt (b := 3000) (by omega) (by decide +kernel))).then fun m s2 ⟨hm1, hm2, hp2⟩ => tt_bnd.mpr ?_
  obtain ⟨y, hy⟩ : ∃ y : Nat, (1 : Int) + m = y := ⟨(1 + m).toNat, by omega⟩
  rw [hy]
  refine (tt_lft (as_primes_ok (m := y) (by omega))).mpr (tt_grd.mpr ⟨by decide, Tt.neg (by rw [List.map_id', decide_eq_true rfl]; decide) (tt_grd.mpr ⟨by decide, tt_grd.mpr ⟨by simp, (one_ok hp2 (by simp) (by simp)).then fun r2 s3 ⟨hr2, hp3⟩ => ?_⟩⟩)⟩)
  have hr3 : r2 = 10 ∨ r2 = 1000000000 := by
    rcases List.mem_cons.mp hr2 with e | e
    · exact .inl e
    · exact .inr (List.mem_singleton.mp e)
  refine (of_ok hp3 (by omega) (Int.lt_of_le_of_lt (b := 1000000000) (by omega) (by decide +kernel))).then fun k' s4 ⟨hk1, hk2, hp4⟩ => tt_bnd.mpr ?_
  obtain ⟨k, hk⟩ : ∃ k : Nat, (1 : Int) + k' = k := ⟨(1 + k').toNat, by omega⟩
  rw [hk]
  have hkb : k ≤ 1000000000 ∧ 1 ≤ k := by omega
  have hsm := sm_nat (a := k) (by omega)
  have okt := ok_trip (a := 6 * (k : Int) + 1) (b := 12 * (k : Int) + 1) (c := 18 * (k : Int) + 1) (by omega) (by omega) (by omega)
  have okl := (shp_list (n := 2) (l := [PyData.tuple [PyData.int (6 * (k : Int) + 1), PyData.int (12 * (k : Int) + 1), PyData.int (18 * (k : Int) + 1)], PyData.tuple [PyData.int (6 * (k : Int) + 1), PyData.int (12 * (k : Int) + 1), PyData.int (18 * (k : Int) + 1)]]) (by simp) (Shp.lc okt okt.l1)).ok (by decide) (by decide)
  refine tt_grd.mpr ⟨⟨sm_small (by decide), hsm⟩, tt_grd.mpr ⟨⟨sm_small (by decide), hsm⟩, tt_grd.mpr ⟨⟨sm_small (by decide), hsm⟩, tt_grd.mpr ⟨by simp, tt_bnd.mpr ?_⟩⟩⟩⟩
  refine (tt_lft (three_factors_ok (by omega))).mpr ((tt_lft (three_factors_ok (by omega))).mpr (tt_grd.mpr ⟨by simp, tt_bnd.mpr (tt_grd.mpr ⟨okl, tt_grd.mpr ⟨by simp, tt_bnd.mpr (tt_grd.mpr ⟨okl, tt_grP.mpr ⟨rfl, Tt.neg (by decide) ?_⟩⟩)⟩⟩)⟩))
  refine Tt.then (P' := fun b _ => b = true → k = 1 ∨ k = 6) ?_ ?_
  · by_cases h11 : k < 11
    · refine Tt.pos (by rw [decide_eq_true_iff]; omega) (tt_grd.mpr ⟨by simp, ?_⟩)
      have e3 : [6 * (k : Int) + 1, 12 * (k : Int) + 1, 18 * (k : Int) + 1] = ci [6 * k + 1, 12 * k + 1, 18 * k + 1] := by simp [ci]
      rw [e3]
      refine tt_filterMap (g := fun x : Int => if prB x.toNat = true then none else some x) (fun x hx s Q hQ => ?_) (tt_grd.mpr ⟨by simp, tt_pure.mpr fun ht => ?_⟩)
      · obtain ⟨y, hy, rfl⟩ := List.mem_map.mp hx
        have hyb : 1 ≤ y ∧ y ≤ 200 := by
          rcases List.mem_cons.mp hy with e | e
          · omega
          · rcases List.mem_cons.mp e with e | e
            · omega
            · have := List.mem_singleton.mp e; omega
        rw [Int.toNat_natCast] at hQ
        refine (tt_lft (law_primes_ok (by omega) (by omega))).mpr (tt_grd.mpr ⟨by simp, ?_⟩)
        rw [dec_prime]
        cases hp : prB y with
        | true => rw [hp] at hQ; exact Tt.neg (by decide) (tt_pure.mpr hQ)
        | false => rw [hp] at hQ; exact Tt.pos (by decide) (tt_pure.mpr hQ)
      · have chk : ∀ k, k < 11 → 1 ≤ k → ((ci [6 * k + 1, 12 * k + 1, 18 * k + 1]).filterMap fun x : Int => if prB x.toNat = true then none else some x) = [] → k = 1 ∨ k = 6 := by decide +kernel
        rw [decide_eq_true_iff] at ht
        exact chk k h11 hkb.2 ht
    · exact Tt.neg (by rw [decide_eq_true_iff]; omega) (tt_pure.mpr fun e => nomatch e)
  · intro b _ hb
    cases b with
    | false => exact Tt.neg (by decide) (tt_bnd.mpr (tt_pure.mpr rfl))
    | true =>
      obtain ⟨c1, c2, c3, c4⟩ := cF
      have hp1 : m_primes_of (1729 : Nat) = some (pfi (pf 1729)) := po (by decide) (by decide)
      have hp2 : m_primes_of (294409 : Nat) = some (pfi (pf 294409)) := primes_of_ok (by decide) (by decide) fun m hd hi => by
        by_cases z : m ≤ 20000
        · exact isp_right chk4 (by decide) (by decide) z hi
        · exfalso
          have key : ∀ c, c < 20 → 294409 % c ≠ 0 ∨ c = 0 ∨ isp (294409 / c) = false := by decide +kernel
          obtain ⟨c, hc⟩ := hd
          have hc20 : c < 20 := Nat.lt_of_not_le fun y => by
            have : 20001 * 20 ≤ m * c := Nat.mul_le_mul (by omega) y
            omega
          have hc0 : c ≠ 0 := by rintro rfl; omega
          rcases key c hc20 with w | w | w
          · exact w (Nat.mod_eq_zero_of_dvd ⟨m, by rw [hc, Nat.mul_comm]⟩)
          · exact hc0 w
          · rw [hc, Nat.mul_div_cancel _ (by omega)] at w
            rw [w] at hi; cases hi
      have low : ∀ N, N = 1729 ∨ N = 294409 → ∀ y ∈ pf N, 2 ≤ y.1 := by
        intro N hN y hy
        have h0 : 0 < N := by omega
        exact ((pf_ok h0 (by omega)).low h0 (q := y.1) (k := y.2) hy).1
      refine Tt.pos rfl ((tt_lft (show atI [6 * (k : Int) + 1, 12 * (k : Int) + 1, 18 * (k : Int) + 1] 0 = some (6 * (k : Int) + 1) from rfl)).mpr ((tt_lft (show atI [6 * (k : Int) + 1, 12 * (k : Int) + 1, 18 * (k : Int) + 1] 1 = some (12 * (k : Int) + 1) from rfl)).mpr ?_))
      rcases hb rfl with rfl | rfl
      · refine tt_grd.mpr ⟨⟨sm_small (by decide), sm_small (by decide)⟩, (tt_lft (show atI _ 2 = some (19 : Int) from rfl)).mpr (tt_grd.mpr ⟨⟨sm_small (by decide), sm_small (by decide)⟩, ?_⟩)⟩
        exact (tt_lft (show m_is_as_prime (1729 : Nat) = some true by rw [is_as_prime_ok' (by decide) hp1 (low _ (.inl rfl)) c3, c1])).mpr (tt_bnd.mpr (tt_pure.mpr rfl))
      · refine tt_grd.mpr ⟨⟨sm_small (by decide), sm_small (by decide)⟩, (tt_lft (show atI _ 2 = some (109 : Int) from rfl)).mpr (tt_grd.mpr ⟨⟨sm_small (by decide), sm_small (by decide)⟩, ?_⟩)⟩
        exact (tt_lft (show m_is_as_prime (294409 : Nat) = some true by rw [is_as_prime_ok' (by decide) hp2 (low _ (.inr rfl)) c4, c2])).mpr (tt_bnd.mpr (tt_pure.mpr rfl))
theorem law_ok {s : PotT} (h : Pot s 1000) : Tt s m_law fun a _ => a = true := by
  unfold m_law
  refine tt_grd.mpr ⟨by simp, tt_bnd.mpr (tt_grd.mpr ⟨by decide, ?_⟩)⟩
  refine Tt.then (P' := fun o s1 => o = Ctl.go () ∧ Pot s1 10) ?_ ?_
  · refine Tt.rgC (I := fun (x : Int) (st : Unit) s1 => 0 ≤ x ∧ Pot s1 (1000 - 400 * x.toNat)) ?_ ?_ 2 0 _ _ (by decide) ⟨by decide, h⟩
    · rintro x st s1 hx ⟨hx0, hp⟩
      obtain ⟨c, hc⟩ : ∃ c, 1000 - 400 * x.toNat = c + 400 := ⟨1000 - 400 * x.toNat - 400, by omega⟩
      rw [hc] at hp
      have hfin : ∀ s2, Pot s2 c → 0 ≤ x + 1 ∧ Pot s2 (1000 - 400 * (x + 1).toNat) := fun s2 q => ⟨by omega, q.le (by omega)⟩
      refine tt_grd.mpr ⟨by simp, (one_ok (hp.le (c := c + 9) (by omega)) (by simp) (by simp)).then fun r s2 ⟨hr, hp2⟩ => ?_⟩
      have hr2 : r = 30 ∨ r = 300 ∨ r = 1500 := by simpa using hr
      refine (of_ok hp2 (by omega) (Int.lt_of_le_of_lt (b := 1500) (by omega) (by decide +kernel))).then fun m s3 ⟨hm1, hm2, hp3⟩ => tt_bnd.mpr ?_
      refine (one_ok hp3 (by decide) (by decide)).then fun kn s4 ⟨hkn, hp4⟩ => tt_grd.mpr ⟨by simp, (one_ok hp4 (by simp) (by simp)).then fun n' s5 ⟨hn', hp5⟩ => tt_bnd.mpr ?_⟩
      have hnN : ∃ n : Nat, n' = n ∧ InN n := by
        have hk : ∀ x ∈ ([561, 1105, 1729, 2465, 2821, 6601, 8911, 10585] : List Int), 0 ≤ x ∧ x.toNat ∈ nsX := by decide
        refine ⟨n'.toNat, ?_⟩
        simp only [List.mem_cons, List.not_mem_nil, or_false] at hn'
        rcases hn' with e | e | e | e | e | e | e | e
        · exact ⟨by omega, .inl (by omega)⟩
        · exact ⟨by omega, .inl (by omega)⟩
        · exact ⟨by omega, .inl (by omega)⟩
        · have := hk kn hkn
          exact ⟨by omega, .inr (by rw [e]; exact this.2)⟩
        all_goals (subst e; exact ⟨rfl, .inr (by decide)⟩)
      obtain ⟨n, rfl, hN⟩ := hnN
      have hF := fn_of hN
      have h2 := hF.n2
      have hB := hF.nB
      refine (of_ok hp5 (by omega) (Int.lt_of_le_of_lt (b := 20000) (by omega) (by decide +kernel))).then fun a' s6 ⟨ha1, ha2, hp6⟩ => tt_bnd.mpr ?_
      obtain ⟨a, rfl⟩ : ∃ a : Nat, a' = a := ⟨a'.toNat, by omega⟩
      have han : a < n := by omega
      have e1 : ((n : Int) - 1) = ((n - 1 : Nat) : Int) := by omega
      have elr : m__law_rest a ((n : Int) - 1) n = some ((a ^ (n - 1) % n : Nat) : Int) := by rw [e1]; exact law_rest_ok h2 (by omega) (by omega)
      have epr : m_power_rest a ((n : Int) - 1) n = some ((a ^ (n - 1) % n : Nat) : Int) := by rw [e1]; exact power_rest_ok (by omega) (by omega) (by omega)
      have hlt : a ^ (n - 1) % n < n := Nat.mod_lt _ (by omega)
      have hdec : decide (((a ^ (n - 1) % n : Nat) : Int) = 1) = decide (a ^ (n - 1) % n = 1) := decide_eq_decide.mpr (by omega)
      have edp : m_does_pass n a = some (decide (((a ^ (n - 1) % n : Nat) : Int) = 1)) := by rw [hdec]; exact does_pass2_ok (n := n) (a := a) h2 (by omega)
      have okp : OkD (PyData.list [PyData.list [PyData.int ((a ^ (n - 1) % n : Nat) : Int), PyData.bool (decide (((a ^ (n - 1) % n : Nat) : Int) = 1))], PyData.list [PyData.int ((a ^ (n - 1) % n : Nat) : Int), PyData.bool (decide (((a ^ (n - 1) % n : Nat) : Int) = 1))]]) := by
        have q := shp_list (D := 0) (B := 50) (n := 2) (l := [PyData.int ((a ^ (n - 1) % n : Nat) : Int), PyData.bool (decide (((a ^ (n - 1) % n : Nat) : Int) = 1))]) (by simp) (Shp.lc (shp_int (by omega)) shp_bool.l1)
        exact (shp_list (n := 2) (by simp) (Shp.lc q q.l1)).ok (by decide) (by decide)
      refine (tt_lft (law_primes_ok (by omega) (by omega))).mpr (tt_bnd.mpr ((tt_lft elr).mpr (tt_bnd.mpr ((tt_lft epr).mpr ((tt_lft edp).mpr (tt_bnd.mpr ((tt_lft epr).mpr ((tt_lft edp).mpr (tt_bnd.mpr ?_)))))))))
      refine tt_grd.mpr ⟨by simp, tt_bnd.mpr (tt_grd.mpr ⟨okp, tt_grd.mpr ⟨by simp, tt_grd.mpr ⟨⟨by decide, by decide, by simp⟩, tt_bnd.mpr (tt_grd.mpr ⟨okp, tt_grP.mpr ⟨rfl, Tt.neg (by decide) ?_⟩⟩)⟩⟩⟩)⟩
      have hgo : ∀ s7, s7 = s6 → (match (Ctl.go () : Ctl Bool Unit) with | .go st' => 0 ≤ x + 1 ∧ Pot s7 (1000 - 400 * (x + 1).toNat) | y => y = Ctl.go () ∧ Pot s7 10) := fun s7 e => by rw [e]; exact hfin s6 (hp6.le (by omega))
      refine Tt.then (P' := fun b s7 => s7 = s6 ∧ b = (decide (0 < a) && decide (Nat.gcd a n = 1))) ?_ ?_
      · by_cases z : 0 < a
        · refine Tt.pos (by rw [decide_eq_true_iff]; omega) ((tt_lft (law_common_ok (a := a) (b := n) (by omega))).mpr (tt_pure.mpr ⟨rfl, ?_⟩))
          rw [decide_eq_true z, Bool.true_and]
          exact decide_eq_decide.mpr (by omega)
        · refine Tt.neg (by rw [decide_eq_true_iff]; omega) (tt_pure.mpr ⟨rfl, ?_⟩)
          rw [decide_eq_false z, Bool.false_and]
      rintro b s7 ⟨rfl, rfl⟩
      by_cases z : 0 < a ∧ Nat.gcd a n = 1
      · obtain ⟨z1, z2⟩ := z
        refine Tt.pos (by rw [decide_eq_true z1, decide_eq_true z2]; rfl) ?_
        obtain ⟨K, ko, kl, k0, kd⟩ := order_both h2 hB (by omega) hF.lo hF.lm z2 (hF.od a z1 han z2)
        refine (tt_lft kl).mpr (tt_bnd.mpr ((tt_lft ko).mpr (Tt.then (P' := fun b s8 => b = false ∧ s8 = s7) ?_ ?_)))
        · refine Tt.neg (by rw [decide_eq_true rfl]; decide) (tt_grd.mpr ⟨by omega, tt_pure.mpr ⟨?_, rfl⟩⟩)
          rw [e1, nmod]
          rw [hdec]
          have : decide (a ^ (n - 1) % n = 1) = decide ((((n - 1) % K : Nat) : Int) = 0) := decide_eq_decide.mpr ((kd (n - 1)).trans ⟨fun q => by have := Nat.mod_eq_zero_of_dvd q; omega, fun q => Nat.dvd_of_mod_eq_zero (by omega)⟩)
          rw [this, decide_eq_true rfl]; rfl
        · rintro b s8 ⟨rfl, rfl⟩
          exact Tt.neg (by decide) (tail_ok hF han (hgo _ rfl))
      · refine Tt.neg ?_ ?_
        · rw [Bool.and_eq_true, decide_eq_true_eq, decide_eq_true_eq]; exact z
        · refine Tt.neg ?_ (tail_ok hF han (hgo _ rfl))
          rw [decide_eq_true_eq]
          intro e
          have e9 : a ^ (n - 1) % n = 1 := by omega
          refine z ⟨Nat.pos_of_ne_zero ?_, ?_⟩
          · rintro rfl
            rw [Nat.zero_pow (by omega), Nat.zero_mod] at e9
            cases e9
          · have hd1 : Nat.gcd a n ∣ a ^ (n - 1) := Nat.dvd_trans (Nat.gcd_dvd_left a n) (by
              obtain ⟨c, hc⟩ : ∃ c, n - 1 = c + 1 := ⟨n - 2, by omega⟩
              rw [hc, Nat.pow_succ]; exact Nat.dvd_mul_left _ _)
            have hd2 : Nat.gcd a n ∣ 1 := by
              rw [← e9]
              exact (Nat.dvd_mod_iff (Nat.gcd_dvd_right a n)).mpr hd1
            exact Nat.dvd_one.mp hd2
    · rintro st s1 ⟨_, q⟩
      exact ⟨rfl, q.le (by decide)⟩
  · rintro o s1 ⟨rfl, hp⟩
    exact (known_ok (b := 6) hp).then fun a s2 e => tt_bnd.mpr (tt_pure.mpr e)
theorem main_law : ∀ ns : List Int, ns.length ≤ 63 → (∀ i ∈ ns, Builtin.Int.intBits i ≤ 1048576) → okLaw ns := by
  intro ns hl hb
  obtain ⟨s, e, h⟩ := pot_ok hb hl
  obtain ⟨a, s1, e1, rfl⟩ := law_ok (h.le (by decide))
  exact ⟨s, s1, e, e1⟩
end Wk
set_option Elab.async false
set_option maxRecDepth 100000
set_option maxHeartbeats 4000000
set_option linter.all false
namespace Wk
open PySem L2
open PyProof.Rows hiding St
theorem all_mk {l : PySem.W.OpenLaw} {w : World} {K : PySem.W.Frag} {h : Heap} {mg : Str → Option Value} {fa : Addr} (X : K.In h) (G : h.Ns mainGlobals mg) (hfa : mg "law" = some (.ref fa))
    {f0 : Addr} {od0 an0 : Option Addr} {sl0 : Array (Option Value)} {oc0 kV0 dc0 pm0 cd0 ct0 : Value}
    (a0 : PySem.W.nsIn K mainGlobals "taken_out" = some (some (.ref f0))) (l0 : K.lookup f0 = some ⟨oc0, od0, .func (PySem.W.fnOf "taken_out" "taken_out" (defArgs t_taken_out) (defBody t_taken_out) (defScope t_taken_out) .none kV0 dc0 pm0 an0 cd0 ct0), sl0⟩) (c0 : PySem.W.codeIn K cd0 "taken_out" = true) (k0 : PySem.W.keepIn K (.ref f0) = true)
    {f1 : Addr} {od1 an1 : Option Addr} {sl1 : Array (Option Value)} {oc1 kV1 dc1 pm1 cd1 ct1 : Value}
    (a1 : PySem.W.nsIn K mainGlobals "power_left" = some (some (.ref f1))) (l1 : K.lookup f1 = some ⟨oc1, od1, .func (PySem.W.fnOf "power_left" "power_left" (defArgs t_power_left) (defBody t_power_left) (defScope t_power_left) .none kV1 dc1 pm1 an1 cd1 ct1), sl1⟩) (c1 : PySem.W.codeIn K cd1 "power_left" = true) (k1 : PySem.W.keepIn K (.ref f1) = true)
    {f2 : Addr} {od2 an2 : Option Addr} {sl2 : Array (Option Value)} {oc2 kV2 dc2 pm2 cd2 ct2 : Value}
    (a2 : PySem.W.nsIn K mainGlobals "does_pass_numberparts" = some (some (.ref f2))) (l2 : K.lookup f2 = some ⟨oc2, od2, .func (PySem.W.fnOf "does_pass" "does_pass" (defArgs t_does_pass_1) (defBody t_does_pass_1) (defScope t_does_pass_1) .none kV2 dc2 pm2 an2 cd2 ct2), sl2⟩) (c2 : PySem.W.codeIn K cd2 "does_pass" = true) (k2 : PySem.W.keepIn K (.ref f2) = true)
    {f3 : Addr} {od3 an3 : Option Addr} {sl3 : Array (Option Value)} {oc3 kV3 dc3 pm3 cd3 ct3 : Value}
    (a3 : PySem.W.nsIn K mainGlobals "is_prime_number" = some (some (.ref f3))) (l3 : K.lookup f3 = some ⟨oc3, od3, .func (PySem.W.fnOf "is_prime_number" "is_prime_number" (defArgs t_is_prime_number) (defBody t_is_prime_number) (defScope t_is_prime_number) .none kV3 dc3 pm3 an3 cd3 ct3), sl3⟩) (c3 : PySem.W.codeIn K cd3 "is_prime_number" = true) (k3 : PySem.W.keepIn K (.ref f3) = true)
    {f4 : Addr} {od4 an4 : Option Addr} {sl4 : Array (Option Value)} {oc4 kV4 dc4 pm4 cd4 ct4 : Value}
    (a4 : PySem.W.nsIn K mainGlobals "primes_of" = some (some (.ref f4))) (l4 : K.lookup f4 = some ⟨oc4, od4, .func (PySem.W.fnOf "primes_of" "primes_of" (defArgs t_primes_of) (defBody t_primes_of) (defScope t_primes_of) .none kV4 dc4 pm4 an4 cd4 ct4), sl4⟩) (c4 : PySem.W.codeIn K cd4 "primes_of" = true) (k4 : PySem.W.keepIn K (.ref f4) = true)
    {f5 : Addr} {od5 an5 : Option Addr} {sl5 : Array (Option Value)} {oc5 kV5 dc5 pm5 cd5 ct5 : Value}
    (a5 : PySem.W.nsIn K mainGlobals "common_divisor" = some (some (.ref f5))) (l5 : K.lookup f5 = some ⟨oc5, od5, .func (PySem.W.fnOf "common_divisor" "common_divisor" (defArgs t_common_divisor) (defBody t_common_divisor) (defScope t_common_divisor) .none kV5 dc5 pm5 an5 cd5 ct5), sl5⟩) (c5 : PySem.W.codeIn K cd5 "common_divisor" = true) (k5 : PySem.W.keepIn K (.ref f5) = true)
    {f6 : Addr} {od6 an6 : Option Addr} {sl6 : Array (Option Value)} {oc6 kV6 dc6 pm6 cd6 ct6 : Value}
    (a6 : PySem.W.nsIn K mainGlobals "power_rest" = some (some (.ref f6))) (l6 : K.lookup f6 = some ⟨oc6, od6, .func (PySem.W.fnOf "power_rest" "power_rest" (defArgs t_power_rest) (defBody t_power_rest) (defScope t_power_rest) .none kV6 dc6 pm6 an6 cd6 ct6), sl6⟩) (c6 : PySem.W.codeIn K cd6 "power_rest" = true) (k6 : PySem.W.keepIn K (.ref f6) = true)
    {f7 : Addr} {od7 an7 : Option Addr} {sl7 : Array (Option Value)} {oc7 kV7 dc7 pm7 cd7 ct7 : Value}
    (a7 : PySem.W.nsIn K mainGlobals "does_pass_powerpasses" = some (some (.ref f7))) (l7 : K.lookup f7 = some ⟨oc7, od7, .func (PySem.W.fnOf "does_pass" "does_pass" (defArgs t_does_pass) (defBody t_does_pass) (defScope t_does_pass) .none kV7 dc7 pm7 an7 cd7 ct7), sl7⟩) (c7 : PySem.W.codeIn K cd7 "does_pass" = true) (k7 : PySem.W.keepIn K (.ref f7) = true)
    {f8 : Addr} {od8 an8 : Option Addr} {sl8 : Array (Option Value)} {oc8 kV8 dc8 pm8 cd8 ct8 : Value}
    (a8 : PySem.W.nsIn K mainGlobals "halves_of" = some (some (.ref f8))) (l8 : K.lookup f8 = some ⟨oc8, od8, .func (PySem.W.fnOf "halves_of" "halves_of" (defArgs t_halves_of) (defBody t_halves_of) (defScope t_halves_of) .none kV8 dc8 pm8 an8 cd8 ct8), sl8⟩) (c8 : PySem.W.codeIn K cd8 "halves_of" = true) (k8 : PySem.W.keepIn K (.ref f8) = true)
    {f9 : Addr} {od9 an9 : Option Addr} {sl9 : Array (Option Value)} {oc9 kV9 dc9 pm9 cd9 ct9 : Value}
    (a9 : PySem.W.nsIn K mainGlobals "does_pass_strongly" = some (some (.ref f9))) (l9 : K.lookup f9 = some ⟨oc9, od9, .func (PySem.W.fnOf "does_pass_strongly" "does_pass_strongly" (defArgs t_does_pass_strongly) (defBody t_does_pass_strongly) (defScope t_does_pass_strongly) .none kV9 dc9 pm9 an9 cd9 ct9), sl9⟩) (c9 : PySem.W.codeIn K cd9 "does_pass_strongly" = true) (k9 : PySem.W.keepIn K (.ref f9) = true)
    {f10 : Addr} {od10 an10 : Option Addr} {sl10 : Array (Option Value)} {oc10 kV10 dc10 pm10 cd10 ct10 : Value}
    (a10 : PySem.W.nsIn K mainGlobals "passes_number" = some (some (.ref f10))) (l10 : K.lookup f10 = some ⟨oc10, od10, .func (PySem.W.fnOf "passes_number" "passes_number" (defArgs t_passes_number) (defBody t_passes_number) (defScope t_passes_number) .none kV10 dc10 pm10 an10 cd10 ct10), sl10⟩) (c10 : PySem.W.codeIn K cd10 "passes_number" = true) (k10 : PySem.W.keepIn K (.ref f10) = true)
    {f11 : Addr} {od11 an11 : Option Addr} {sl11 : Array (Option Value)} {oc11 kV11 dc11 pm11 cd11 ct11 : Value}
    (a11 : PySem.W.nsIn K mainGlobals "twos_in" = some (some (.ref f11))) (l11 : K.lookup f11 = some ⟨oc11, od11, .func (PySem.W.fnOf "twos_in" "twos_in" (defArgs t_twos_in) (defBody t_twos_in) (defScope t_twos_in) .none kV11 dc11 pm11 an11 cd11 ct11), sl11⟩) (c11 : PySem.W.codeIn K cd11 "twos_in" = true) (k11 : PySem.W.keepIn K (.ref f11) = true)
    {f12 : Addr} {od12 an12 : Option Addr} {sl12 : Array (Option Value)} {oc12 kV12 dc12 pm12 cd12 ct12 : Value}
    (a12 : PySem.W.nsIn K mainGlobals "strong_number" = some (some (.ref f12))) (l12 : K.lookup f12 = some ⟨oc12, od12, .func (PySem.W.fnOf "strong_number" "strong_number" (defArgs t_strong_number) (defBody t_strong_number) (defScope t_strong_number) .none kV12 dc12 pm12 an12 cd12 ct12), sl12⟩) (c12 : PySem.W.codeIn K cd12 "strong_number" = true) (k12 : PySem.W.keepIn K (.ref f12) = true)
    {f13 : Addr} {od13 an13 : Option Addr} {sl13 : Array (Option Value)} {oc13 kV13 dc13 pm13 cd13 ct13 : Value}
    (a13 : PySem.W.nsIn K mainGlobals "is_as_prime" = some (some (.ref f13))) (l13 : K.lookup f13 = some ⟨oc13, od13, .func (PySem.W.fnOf "is_as_prime" "is_as_prime" (defArgs t_is_as_prime) (defBody t_is_as_prime) (defScope t_is_as_prime) .none kV13 dc13 pm13 an13 cd13 ct13), sl13⟩) (c13 : PySem.W.codeIn K cd13 "is_as_prime" = true) (k13 : PySem.W.keepIn K (.ref f13) = true)
    {f14 : Addr} {od14 an14 : Option Addr} {sl14 : Array (Option Value)} {oc14 kV14 dc14 pm14 cd14 ct14 : Value}
    (a14 : PySem.W.nsIn K mainGlobals "as_primes_to" = some (some (.ref f14))) (l14 : K.lookup f14 = some ⟨oc14, od14, .func (PySem.W.fnOf "as_primes_to" "as_primes_to" (defArgs t_as_primes_to) (defBody t_as_primes_to) (defScope t_as_primes_to) .none kV14 dc14 pm14 an14 cd14 ct14), sl14⟩) (c14 : PySem.W.codeIn K cd14 "as_primes_to" = true) (k14 : PySem.W.keepIn K (.ref f14) = true)
    {f15 : Addr} {od15 an15 : Option Addr} {sl15 : Array (Option Value)} {oc15 kV15 dc15 pm15 cd15 ct15 : Value}
    (a15 : PySem.W.nsIn K mainGlobals "three_factors" = some (some (.ref f15))) (l15 : K.lookup f15 = some ⟨oc15, od15, .func (PySem.W.fnOf "three_factors" "three_factors" (defArgs t_three_factors) (defBody t_three_factors) (defScope t_three_factors) .none kV15 dc15 pm15 an15 cd15 ct15), sl15⟩) (c15 : PySem.W.codeIn K cd15 "three_factors" = true) (k15 : PySem.W.keepIn K (.ref f15) = true)
    {f16 : Addr} {od16 an16 : Option Addr} {sl16 : Array (Option Value)} {oc16 kV16 dc16 pm16 cd16 ct16 : Value}
    (a16 : PySem.W.nsIn K mainGlobals "power_of" = some (some (.ref f16))) (l16 : K.lookup f16 = some ⟨oc16, od16, .func (PySem.W.fnOf "power_of" "power_of" (defArgs t_power_of) (defBody t_power_of) (defScope t_power_of) .none kV16 dc16 pm16 an16 cd16 ct16), sl16⟩) (c16 : PySem.W.codeIn K cd16 "power_of" = true) (k16 : PySem.W.keepIn K (.ref f16) = true)
    {f17 : Addr} {od17 an17 : Option Addr} {sl17 : Array (Option Value)} {oc17 kV17 dc17 pm17 cd17 ct17 : Value}
    (a17 : PySem.W.nsIn K mainGlobals "round_lengths" = some (some (.ref f17))) (l17 : K.lookup f17 = some ⟨oc17, od17, .func (PySem.W.fnOf "round_lengths" "round_lengths" (defArgs t_round_lengths) (defBody t_round_lengths) (defScope t_round_lengths) .none kV17 dc17 pm17 an17 cd17 ct17), sl17⟩) (c17 : PySem.W.codeIn K cd17 "round_lengths" = true) (k17 : PySem.W.keepIn K (.ref f17) = true)
    {f18 : Addr} {od18 an18 : Option Addr} {sl18 : Array (Option Value)} {oc18 kV18 dc18 pm18 cd18 ct18 : Value}
    (a18 : PySem.W.nsIn K mainGlobals "greatest_order" = some (some (.ref f18))) (l18 : K.lookup f18 = some ⟨oc18, od18, .func (PySem.W.fnOf "greatest_order" "greatest_order" (defArgs t_greatest_order) (defBody t_greatest_order) (defScope t_greatest_order) .none kV18 dc18 pm18 an18 cd18 ct18), sl18⟩) (c18 : PySem.W.codeIn K cd18 "greatest_order" = true) (k18 : PySem.W.keepIn K (.ref f18) = true)
    {f19 : Addr} {od19 an19 : Option Addr} {sl19 : Array (Option Value)} {oc19 kV19 dc19 pm19 cd19 ct19 : Value}
    (a19 : PySem.W.nsIn K mainGlobals "rests_number" = some (some (.ref f19))) (l19 : K.lookup f19 = some ⟨oc19, od19, .func (PySem.W.fnOf "rests_number" "rests_number" (defArgs t_rests_number) (defBody t_rests_number) (defScope t_rests_number) .none kV19 dc19 pm19 an19 cd19 ct19), sl19⟩) (c19 : PySem.W.codeIn K cd19 "rests_number" = true) (k19 : PySem.W.keepIn K (.ref f19) = true)
    {f20 : Addr} {od20 an20 : Option Addr} {sl20 : Array (Option Value)} {oc20 kV20 dc20 pm20 cd20 ct20 : Value}
    (a20 : PySem.W.nsIn K mainGlobals "power_order" = some (some (.ref f20))) (l20 : K.lookup f20 = some ⟨oc20, od20, .func (PySem.W.fnOf "power_order" "power_order" (defArgs t_power_order) (defBody t_power_order) (defScope t_power_order) .none kV20 dc20 pm20 an20 cd20 ct20), sl20⟩) (c20 : PySem.W.codeIn K cd20 "power_order" = true) (k20 : PySem.W.keepIn K (.ref f20) = true)
    {f21 : Addr} {od21 an21 : Option Addr} {sl21 : Array (Option Value)} {oc21 kV21 dc21 pm21 cd21 ct21 : Value}
    (a21 : PySem.W.nsIn K mainGlobals "divisors_made" = some (some (.ref f21))) (l21 : K.lookup f21 = some ⟨oc21, od21, .func (PySem.W.fnOf "divisors_made" "divisors_made" (defArgs t_divisors_made) (defBody t_divisors_made) (defScope t_divisors_made) .none kV21 dc21 pm21 an21 cd21 ct21), sl21⟩) (c21 : PySem.W.codeIn K cd21 "divisors_made" = true) (k21 : PySem.W.keepIn K (.ref f21) = true)
    {f22 : Addr} {od22 an22 : Option Addr} {sl22 : Array (Option Value)} {oc22 kV22 dc22 pm22 cd22 ct22 : Value}
    (a22 : PySem.W.nsIn K mainGlobals "order_counts" = some (some (.ref f22))) (l22 : K.lookup f22 = some ⟨oc22, od22, .func (PySem.W.fnOf "order_counts" "order_counts" (defArgs t_order_counts) (defBody t_order_counts) (defScope t_order_counts) .none kV22 dc22 pm22 an22 cd22 ct22), sl22⟩) (c22 : PySem.W.codeIn K cd22 "order_counts" = true) (k22 : PySem.W.keepIn K (.ref f22) = true)
    {f23 : Addr} {od23 an23 : Option Addr} {sl23 : Array (Option Value)} {oc23 kV23 dc23 pm23 cd23 ct23 : Value}
    (a23 : PySem.W.nsIn K mainGlobals "least_showing" = some (some (.ref f23))) (l23 : K.lookup f23 = some ⟨oc23, od23, .func (PySem.W.fnOf "least_showing" "least_showing" (defArgs t_least_showing) (defBody t_least_showing) (defScope t_least_showing) .none kV23 dc23 pm23 an23 cd23 ct23), sl23⟩) (c23 : PySem.W.codeIn K cd23 "least_showing" = true) (k23 : PySem.W.keepIn K (.ref f23) = true)
    {f24 : Addr} {od24 an24 : Option Addr} {sl24 : Array (Option Value)} {oc24 kV24 dc24 pm24 cd24 ct24 : Value}
    (a24 : PySem.W.nsIn K mainGlobals "is_prime_told" = some (some (.ref f24))) (l24 : K.lookup f24 = some ⟨oc24, od24, .func (PySem.W.fnOf "is_prime_told" "is_prime_told" (defArgs t_is_prime_told) (defBody t_is_prime_told) (defScope t_is_prime_told) .none kV24 dc24 pm24 an24 cd24 ct24), sl24⟩) (c24 : PySem.W.codeIn K cd24 "is_prime_told" = true) (k24 : PySem.W.keepIn K (.ref f24) = true)
    {f25 : Addr} {od25 an25 : Option Addr} {sl25 : Array (Option Value)} {oc25 kV25 dc25 pm25 cd25 ct25 : Value}
    (a25 : PySem.W.nsIn K mainGlobals "parted_by_base" = some (some (.ref f25))) (l25 : K.lookup f25 = some ⟨oc25, od25, .func (PySem.W.fnOf "parted_by_base" "parted_by_base" (defArgs t_parted_by_base) (defBody t_parted_by_base) (defScope t_parted_by_base) .none kV25 dc25 pm25 an25 cd25 ct25), sl25⟩) (c25 : PySem.W.codeIn K cd25 "parted_by_base" = true) (k25 : PySem.W.keepIn K (.ref f25) = true)
    {f26 : Addr} {od26 an26 : Option Addr} {sl26 : Array (Option Value)} {oc26 kV26 dc26 pm26 cd26 ct26 : Value}
    (a26 : PySem.W.nsIn K mainGlobals "_law_of" = some (some (.ref f26))) (l26 : K.lookup f26 = some ⟨oc26, od26, .func (PySem.W.fnOf "_law_of" "_law_of" (defArgs t__law_of) (defBody t__law_of) (defScope t__law_of) .none kV26 dc26 pm26 an26 cd26 ct26), sl26⟩) (c26 : PySem.W.codeIn K cd26 "_law_of" = true) (k26 : PySem.W.keepIn K (.ref f26) = true)
    {f27 : Addr} {od27 an27 : Option Addr} {sl27 : Array (Option Value)} {oc27 kV27 dc27 pm27 cd27 ct27 : Value}
    (a27 : PySem.W.nsIn K mainGlobals "_law_one" = some (some (.ref f27))) (l27 : K.lookup f27 = some ⟨oc27, od27, .func (PySem.W.fnOf "_law_one" "_law_one" (defArgs t__law_one) (defBody t__law_one) (defScope t__law_one) .none kV27 dc27 pm27 an27 cd27 ct27), sl27⟩) (c27 : PySem.W.codeIn K cd27 "_law_one" = true) (k27 : PySem.W.keepIn K (.ref f27) = true)
    {f28 : Addr} {od28 an28 : Option Addr} {sl28 : Array (Option Value)} {oc28 kV28 dc28 pm28 cd28 ct28 : Value}
    (a28 : PySem.W.nsIn K mainGlobals "_law_common" = some (some (.ref f28))) (l28 : K.lookup f28 = some ⟨oc28, od28, .func (PySem.W.fnOf "_law_common" "_law_common" (defArgs t__law_common) (defBody t__law_common) (defScope t__law_common) .none kV28 dc28 pm28 an28 cd28 ct28), sl28⟩) (c28 : PySem.W.codeIn K cd28 "_law_common" = true) (k28 : PySem.W.keepIn K (.ref f28) = true)
    {f29 : Addr} {od29 an29 : Option Addr} {sl29 : Array (Option Value)} {oc29 kV29 dc29 pm29 cd29 ct29 : Value}
    (a29 : PySem.W.nsIn K mainGlobals "_law_primes" = some (some (.ref f29))) (l29 : K.lookup f29 = some ⟨oc29, od29, .func (PySem.W.fnOf "_law_primes" "_law_primes" (defArgs t__law_primes) (defBody t__law_primes) (defScope t__law_primes) .none kV29 dc29 pm29 an29 cd29 ct29), sl29⟩) (c29 : PySem.W.codeIn K cd29 "_law_primes" = true) (k29 : PySem.W.keepIn K (.ref f29) = true)
    {f30 : Addr} {od30 an30 : Option Addr} {sl30 : Array (Option Value)} {oc30 kV30 dc30 pm30 cd30 ct30 : Value}
    (a30 : PySem.W.nsIn K mainGlobals "_law_rest" = some (some (.ref f30))) (l30 : K.lookup f30 = some ⟨oc30, od30, .func (PySem.W.fnOf "_law_rest" "_law_rest" (defArgs t__law_rest) (defBody t__law_rest) (defScope t__law_rest) .none kV30 dc30 pm30 an30 cd30 ct30), sl30⟩) (c30 : PySem.W.codeIn K cd30 "_law_rest" = true) (k30 : PySem.W.keepIn K (.ref f30) = true)
    {f31 : Addr} {od31 an31 : Option Addr} {sl31 : Array (Option Value)} {oc31 kV31 dc31 pm31 cd31 ct31 : Value}
    (a31 : PySem.W.nsIn K mainGlobals "_law_order" = some (some (.ref f31))) (l31 : K.lookup f31 = some ⟨oc31, od31, .func (PySem.W.fnOf "_law_order" "_law_order" (defArgs t__law_order) (defBody t__law_order) (defScope t__law_order) .none kV31 dc31 pm31 an31 cd31 ct31), sl31⟩) (c31 : PySem.W.codeIn K cd31 "_law_order" = true) (k31 : PySem.W.keepIn K (.ref f31) = true)
    {f32 : Addr} {od32 an32 : Option Addr} {sl32 : Array (Option Value)} {oc32 kV32 dc32 pm32 cd32 ct32 : Value}
    (a32 : PySem.W.nsIn K mainGlobals "_law_strong" = some (some (.ref f32))) (l32 : K.lookup f32 = some ⟨oc32, od32, .func (PySem.W.fnOf "_law_strong" "_law_strong" (defArgs t__law_strong) (defBody t__law_strong) (defScope t__law_strong) .none kV32 dc32 pm32 an32 cd32 ct32), sl32⟩) (c32 : PySem.W.codeIn K cd32 "_law_strong" = true) (k32 : PySem.W.keepIn K (.ref f32) = true)
    {f33 : Addr} {od33 an33 : Option Addr} {sl33 : Array (Option Value)} {oc33 kV33 dc33 pm33 cd33 ct33 : Value}
    (a33 : PySem.W.nsIn K mainGlobals "_law_are_known_right" = some (some (.ref f33))) (l33 : K.lookup f33 = some ⟨oc33, od33, .func (PySem.W.fnOf "_law_are_known_right" "_law_are_known_right" (defArgs t__law_are_known_right) (defBody t__law_are_known_right) (defScope t__law_are_known_right) .none kV33 dc33 pm33 an33 cd33 ct33), sl33⟩) (c33 : PySem.W.codeIn K cd33 "_law_are_known_right" = true) (k33 : PySem.W.keepIn K (.ref f33) = true)
    {f34 : Addr} {od34 an34 : Option Addr} {sl34 : Array (Option Value)} {oc34 kV34 dc34 pm34 cd34 ct34 : Value}
    (a34 : PySem.W.nsIn K mainGlobals "_law_pot" = some (some (.ref f34))) (l34 : K.lookup f34 = some ⟨oc34, od34, .func (PySem.W.fnOf "_law_pot" "_law_pot" (defArgs t__law_pot) (defBody t__law_pot) (defScope t__law_pot) .none kV34 dc34 pm34 an34 cd34 ct34), sl34⟩) (c34 : PySem.W.codeIn K cd34 "_law_pot" = true) (k34 : PySem.W.keepIn K (.ref f34) = true)
    {f35 : Addr} {od35 an35 : Option Addr} {sl35 : Array (Option Value)} {oc35 kV35 dc35 pm35 cd35 ct35 : Value}
    (a35 : PySem.W.nsIn K mainGlobals "law" = some (some (.ref f35))) (l35 : K.lookup f35 = some ⟨oc35, od35, .func (PySem.W.fnOf "law" "law" (defArgs t_law) (defBody t_law) (defScope t_law) .none kV35 dc35 pm35 an35 cd35 ct35), sl35⟩) (c35 : PySem.W.codeIn K cd35 "law" = true) (k35 : PySem.W.keepIn K (.ref f35) = true)
    (z0 : PySem.W.nsIn K mainGlobals "abs" = some none) (z1 : PySem.W.nsIn K mainGlobals "all" = some none) (z2 : PySem.W.nsIn K mainGlobals "int" = some none) (z3 : PySem.W.nsIn K mainGlobals "len" = some none) (z4 : PySem.W.nsIn K mainGlobals "max" = some none) (z5 : PySem.W.nsIn K mainGlobals "min" = some none) (z6 : PySem.W.nsIn K mainGlobals "range" = some none) (z7 : PySem.W.nsIn K mainGlobals "repr" = some none) (z8 : PySem.W.nsIn K mainGlobals "sorted" = some none) (z9 : PySem.W.nsIn K mainGlobals "sum" = some none) (z10 : PySem.W.nsIn K mainGlobals "tuple" = some none) {tk0 : Tok} (y0 : PySem.W.nsIn K mainGlobals "MAX_LISTED" = some (some (.int 500 tk0))) :
    ∃ fd : FuncData, (∀ (s : Shared) (v : Value), BindsTo s fd ⟨[v], []⟩ [("script", v)]) ∧ ∀ base : Heap, K.In base → base.Ns mainGlobals mg → base.NoDigits → FnG l.prog w K mg base CX0 8 fa fd ["script"] (spLaw K okLaw) := by
  have e := hfa.symm.trans (PySem.W.mg_of X G a35)
  cases e
  have F0 := fun_mk (st := t_taken_out) l0 c0 k0
  have F1 := fun_mk (st := t_power_left) l1 c1 k1
  have F2 := fun_mk (st := t_does_pass_1) l2 c2 k2
  have F3 := fun_mk (st := t_is_prime_number) l3 c3 k3
  have F4 := fun_mk (st := t_primes_of) l4 c4 k4
  have F5 := fun_mk (st := t_common_divisor) l5 c5 k5
  have F6 := fun_mk (st := t_power_rest) l6 c6 k6
  have F7 := fun_mk (st := t_does_pass) l7 c7 k7
  have F8 := fun_mk (st := t_halves_of) l8 c8 k8
  have F9 := fun_mk (st := t_does_pass_strongly) l9 c9 k9
  have F10 := fun_mk (st := t_passes_number) l10 c10 k10
  have F11 := fun_mk (st := t_twos_in) l11 c11 k11
  have F12 := fun_mk (st := t_strong_number) l12 c12 k12
  have F13 := fun_mk (st := t_is_as_prime) l13 c13 k13
  have F14 := fun_mk (st := t_as_primes_to) l14 c14 k14
  have F15 := fun_mk (st := t_three_factors) l15 c15 k15
  have F16 := fun_mk (st := t_power_of) l16 c16 k16
  have F17 := fun_mk (st := t_round_lengths) l17 c17 k17
  have F18 := fun_mk (st := t_greatest_order) l18 c18 k18
  have F19 := fun_mk (st := t_rests_number) l19 c19 k19
  have F20 := fun_mk (st := t_power_order) l20 c20 k20
  have F21 := fun_mk (st := t_divisors_made) l21 c21 k21
  have F22 := fun_mk (st := t_order_counts) l22 c22 k22
  have F23 := fun_mk (st := t_least_showing) l23 c23 k23
  have F24 := fun_mk (st := t_is_prime_told) l24 c24 k24
  have F25 := fun_mk (st := t_parted_by_base) l25 c25 k25
  have F26 := fun_mk (st := t__law_of) l26 c26 k26
  have F27 := fun_mk (st := t__law_one) l27 c27 k27
  have F28 := fun_mk (st := t__law_common) l28 c28 k28
  have F29 := fun_mk (st := t__law_primes) l29 c29 k29
  have F30 := fun_mk (st := t__law_rest) l30 c30 k30
  have F31 := fun_mk (st := t__law_order) l31 c31 k31
  have F32 := fun_mk (st := t__law_strong) l32 c32 k32
  have F33 := fun_mk (st := t__law_are_known_right) l33 c33 k33
  have F34 := fun_mk (st := t__law_pot) l34 c34 k34
  have F35 := fun_mk (st := t_law) l35 c35 k35
  have b0 := F0.binds (ps := ["number", "p"]) fun _ _ _ _ _ _ us hl => match us, hl with | [_, _], _ => rfl
  have b1 := F1.binds (ps := ["base", "often", "number"]) fun _ _ _ _ _ _ us hl => match us, hl with | [_, _, _], _ => rfl
  have b2 := F2.binds (ps := ["number", "base", "often", "odd"]) fun _ _ _ _ _ _ us hl => match us, hl with | [_, _, _, _], _ => rfl
  have b3 := F3.binds (ps := ["number"]) fun _ _ _ _ _ _ us hl => match us, hl with | [_], _ => rfl
  have b4 := F4.binds (ps := ["number"]) fun _ _ _ _ _ _ us hl => match us, hl with | [_], _ => rfl
  have b5 := F5.binds (ps := ["one", "other"]) fun _ _ _ _ _ _ us hl => match us, hl with | [_, _], _ => rfl
  have b6 := F6.binds (ps := ["number", "e", "n"]) fun _ _ _ _ _ _ us hl => match us, hl with | [_, _, _], _ => rfl
  have b7 := F7.binds (ps := ["n", "base"]) fun _ _ _ _ _ _ us hl => match us, hl with | [_, _], _ => rfl
  have b8 := F8.binds (ps := ["n"]) fun _ _ _ _ _ _ us hl => match us, hl with | [_], _ => rfl
  have b9 := F9.binds (ps := ["n", "base"]) fun _ _ _ _ _ _ us hl => match us, hl with | [_, _], _ => rfl
  have b10 := F10.binds (ps := ["n"]) fun _ _ _ _ _ _ us hl => match us, hl with | [_], _ => rfl
  have b11 := F11.binds (ps := ["number"]) fun _ _ _ _ _ _ us hl => match us, hl with | [_], _ => rfl
  have b12 := F12.binds (ps := ["n"]) fun _ _ _ _ _ _ us hl => match us, hl with | [_], _ => rfl
  have b13 := F13.binds (ps := ["n"]) fun _ _ _ _ _ _ us hl => match us, hl with | [_], _ => rfl
  have b14 := F14.binds (ps := ["most"]) fun _ _ _ _ _ _ us hl => match us, hl with | [_], _ => rfl
  have b15 := F15.binds (ps := ["k"]) fun _ _ _ _ _ _ us hl => match us, hl with | [_], _ => rfl
  have b16 := F16.binds (ps := ["number", "k"]) fun _ _ _ _ _ _ us hl => match us, hl with | [_, _], _ => rfl
  have b17 := F17.binds (ps := ["n"]) fun _ _ _ _ _ _ us hl => match us, hl with | [_], _ => rfl
  have b18 := F18.binds (ps := ["n"]) fun _ _ _ _ _ _ us hl => match us, hl with | [_], _ => rfl
  have b19 := F19.binds (ps := ["n"]) fun _ _ _ _ _ _ us hl => match us, hl with | [_], _ => rfl
  have b20 := F20.binds (ps := ["a", "n"]) fun _ _ _ _ _ _ us hl => match us, hl with | [_, _], _ => rfl
  have b21 := F21.binds (ps := ["parting"]) fun _ _ _ _ _ _ us hl => match us, hl with | [_], _ => rfl
  have b22 := F22.binds (ps := ["n"]) fun _ _ _ _ _ _ us hl => match us, hl with | [_], _ => rfl
  have b23 := F23.binds (ps := ["n"]) fun _ _ _ _ _ _ us hl => match us, hl with | [_], _ => rfl
  have b24 := F24.binds (ps := ["n"]) fun _ _ _ _ _ _ us hl => match us, hl with | [_], _ => rfl
  have b25 := F25.binds (ps := ["n", "base"]) fun _ _ _ _ _ _ us hl => match us, hl with | [_, _], _ => rfl
  have b26 := F26.binds (ps := ["pot", "many"]) fun _ _ _ _ _ _ us hl => match us, hl with | [_, _], _ => rfl
  have b27 := F27.binds (ps := ["pot", "items"]) fun _ _ _ _ _ _ us hl => match us, hl with | [_, _], _ => rfl
  have b28 := F28.binds (ps := ["a", "b"]) fun _ _ _ _ _ _ us hl => match us, hl with | [_, _], _ => rfl
  have b29 := F29.binds (ps := ["number"]) fun _ _ _ _ _ _ us hl => match us, hl with | [_], _ => rfl
  have b30 := F30.binds (ps := ["number", "e", "n"]) fun _ _ _ _ _ _ us hl => match us, hl with | [_, _, _], _ => rfl
  have b31 := F31.binds (ps := ["a", "n"]) fun _ _ _ _ _ _ us hl => match us, hl with | [_, _], _ => rfl
  have b32 := F32.binds (ps := ["n", "base"]) fun _ _ _ _ _ _ us hl => match us, hl with | [_, _], _ => rfl
  have b33 := F33.binds (ps := ["pot", "known"]) fun _ _ _ _ _ _ us hl => match us, hl with | [_, _], _ => rfl
  have b34 := F34.binds (ps := ["script"]) fun _ _ _ _ _ _ us hl => match us, hl with | [_], _ => rfl
  refine ⟨PySem.W.fnOf "law" "law" (defArgs t_law) (defBody t_law) (defScope t_law) .none kV35 dc35 pm35 an35 cd35 ct35, fun s v => .of_eq rfl, fun base _ _ nd => ?_⟩
  have T : Tx mg base := ⟨nd, PySem.W.mg_none_of X G z0, PySem.W.mg_none_of X G z1, PySem.W.mg_none_of X G z2, PySem.W.mg_none_of X G z3, PySem.W.mg_none_of X G z4, PySem.W.mg_none_of X G z5, PySem.W.mg_none_of X G z6, PySem.W.mg_none_of X G z7, PySem.W.mg_none_of X G z8, PySem.W.mg_none_of X G z9, PySem.W.mg_none_of X G z10, ⟨_, PySem.W.mg_of X G y0⟩⟩
  have D0 : Dk l.prog w K mg base "taken_out" "taken_out" t_taken_out 1 ["number", "p"] (sp_taken_out K) := ⟨_, _, F0, PySem.W.mg_of X G a0, g_taken_out T  F0, b0⟩
  have D1 : Dk l.prog w K mg base "power_left" "power_left" t_power_left 1 ["base", "often", "number"] (sp_power_left K) := ⟨_, _, F1, PySem.W.mg_of X G a1, g_power_left T  F1, b1⟩
  have D2 : Dk l.prog w K mg base "does_pass" "does_pass_numberparts" t_does_pass_1 2 ["number", "base", "often", "odd"] (sp_does_pass_1 K) := ⟨_, _, F2, PySem.W.mg_of X G a2, g_does_pass_1 T D1 F2, b2⟩
  have D3 : Dk l.prog w K mg base "is_prime_number" "is_prime_number" t_is_prime_number 3 ["number"] (sp_is_prime_number K) := ⟨_, _, F3, PySem.W.mg_of X G a3, g_is_prime_number T D0 D2 F3, b3⟩
  have D4 : Dk l.prog w K mg base "primes_of" "primes_of" t_primes_of 4 ["number"] (sp_primes_of K) := ⟨_, _, F4, PySem.W.mg_of X G a4, g_primes_of T D0 D3 F4, b4⟩
  have D5 : Dk l.prog w K mg base "common_divisor" "common_divisor" t_common_divisor 1 ["one", "other"] (sp_common_divisor K) := ⟨_, _, F5, PySem.W.mg_of X G a5, g_common_divisor T  F5, b5⟩
  have D6 : Dk l.prog w K mg base "power_rest" "power_rest" t_power_rest 1 ["number", "e", "n"] (sp_power_rest K) := ⟨_, _, F6, PySem.W.mg_of X G a6, g_power_rest T  F6, b6⟩
  have D7 : Dk l.prog w K mg base "does_pass" "does_pass_powerpasses" t_does_pass 2 ["n", "base"] (sp_does_pass K) := ⟨_, _, F7, PySem.W.mg_of X G a7, g_does_pass T D6 F7, b7⟩
  have D8 : Dk l.prog w K mg base "halves_of" "halves_of" t_halves_of 1 ["n"] (sp_halves_of K) := ⟨_, _, F8, PySem.W.mg_of X G a8, g_halves_of T  F8, b8⟩
  have D9 : Dk l.prog w K mg base "does_pass_strongly" "does_pass_strongly" t_does_pass_strongly 2 ["n", "base"] (sp_does_pass_strongly K) := ⟨_, _, F9, PySem.W.mg_of X G a9, g_does_pass_strongly T D8 D6 F9, b9⟩
  have D10 : Dk l.prog w K mg base "passes_number" "passes_number" t_passes_number 5 ["n"] (sp_passes_number K) := ⟨_, _, F10, PySem.W.mg_of X G a10, g_passes_number T D4 D5 F10, b10⟩
  have D11 : Dk l.prog w K mg base "twos_in" "twos_in" t_twos_in 1 ["number"] (sp_twos_in K) := ⟨_, _, F11, PySem.W.mg_of X G a11, g_twos_in T  F11, b11⟩
  have D12 : Dk l.prog w K mg base "strong_number" "strong_number" t_strong_number 5 ["n"] (sp_strong_number K) := ⟨_, _, F12, PySem.W.mg_of X G a12, g_strong_number T D4 D8 D11 D5 F12, b12⟩
  have D13 : Dk l.prog w K mg base "is_as_prime" "is_as_prime" t_is_as_prime 5 ["n"] (sp_is_as_prime K) := ⟨_, _, F13, PySem.W.mg_of X G a13, g_is_as_prime T D4 F13, b13⟩
  have D14 : Dk l.prog w K mg base "as_primes_to" "as_primes_to" t_as_primes_to 6 ["most"] (sp_as_primes_to K) := ⟨_, _, F14, PySem.W.mg_of X G a14, g_as_primes_to T D6 D13 F14, b14⟩
  have D15 : Dk l.prog w K mg base "three_factors" "three_factors" t_three_factors 1 ["k"] (sp_three_factors K) := ⟨_, _, F15, PySem.W.mg_of X G a15, g_three_factors T  F15, b15⟩
  have D16 : Dk l.prog w K mg base "power_of" "power_of" t_power_of 1 ["number", "k"] (sp_power_of K) := ⟨_, _, F16, PySem.W.mg_of X G a16, g_power_of T  F16, b16⟩
  have D17 : Dk l.prog w K mg base "round_lengths" "round_lengths" t_round_lengths 5 ["n"] (sp_round_lengths K) := ⟨_, _, F17, PySem.W.mg_of X G a17, g_round_lengths T D4 D16 F17, b17⟩
  have D18 : Dk l.prog w K mg base "greatest_order" "greatest_order" t_greatest_order 6 ["n"] (sp_greatest_order K) := ⟨_, _, F18, PySem.W.mg_of X G a18, g_greatest_order T D17 D5 F18, b18⟩
  have D19 : Dk l.prog w K mg base "rests_number" "rests_number" t_rests_number 6 ["n"] (sp_rests_number K) := ⟨_, _, F19, PySem.W.mg_of X G a19, g_rests_number T D17 F19, b19⟩
  have D20 : Dk l.prog w K mg base "power_order" "power_order" t_power_order 7 ["a", "n"] (sp_power_order K) := ⟨_, _, F20, PySem.W.mg_of X G a20, g_power_order T D5 D18 D4 D6 F20, b20⟩
  have D21 : Dk l.prog w K mg base "divisors_made" "divisors_made" t_divisors_made 2 ["parting"] (sp_divisors_made K) := ⟨_, _, F21, PySem.W.mg_of X G a21, g_divisors_made T D16 F21, b21⟩
  have D22 : Dk l.prog w K mg base "order_counts" "order_counts" t_order_counts 7 ["n"] (sp_order_counts K) := ⟨_, _, F22, PySem.W.mg_of X G a22, g_order_counts T D4 D18 D17 D21 D5 F22, b22⟩
  have D23 : Dk l.prog w K mg base "least_showing" "least_showing" t_least_showing 4 ["n"] (sp_least_showing K) := ⟨_, _, F23, PySem.W.mg_of X G a23, g_least_showing T D3 D9 F23, b23⟩
  have D24 : Dk l.prog w K mg base "is_prime_told" "is_prime_told" t_is_prime_told 3 ["n"] (sp_is_prime_told K) := ⟨_, _, F24, PySem.W.mg_of X G a24, g_is_prime_told T D9 F24, b24⟩
  have D25 : Dk l.prog w K mg base "parted_by_base" "parted_by_base" t_parted_by_base 3 ["n", "base"] (sp_parted_by_base K) := ⟨_, _, F25, PySem.W.mg_of X G a25, g_parted_by_base T D7 D9 D8 D6 D5 F25, b25⟩
  have D26 : Dk l.prog w K mg base "_law_of" "_law_of" t__law_of 1 ["pot", "many"] (sp__law_of K) := ⟨_, _, F26, PySem.W.mg_of X G a26, g__law_of T  F26, b26⟩
  have D27 : Dk l.prog w K mg base "_law_one" "_law_one" t__law_one 2 ["pot", "items"] (sp__law_one K) := ⟨_, _, F27, PySem.W.mg_of X G a27, g__law_one T D26 F27, b27⟩
  have D28 : Dk l.prog w K mg base "_law_common" "_law_common" t__law_common 1 ["a", "b"] (sp__law_common K) := ⟨_, _, F28, PySem.W.mg_of X G a28, g__law_common T  F28, b28⟩
  have D29 : Dk l.prog w K mg base "_law_primes" "_law_primes" t__law_primes 1 ["number"] (sp__law_primes K) := ⟨_, _, F29, PySem.W.mg_of X G a29, g__law_primes T  F29, b29⟩
  have D30 : Dk l.prog w K mg base "_law_rest" "_law_rest" t__law_rest 1 ["number", "e", "n"] (sp__law_rest K) := ⟨_, _, F30, PySem.W.mg_of X G a30, g__law_rest T  F30, b30⟩
  have D31 : Dk l.prog w K mg base "_law_order" "_law_order" t__law_order 1 ["a", "n"] (sp__law_order K) := ⟨_, _, F31, PySem.W.mg_of X G a31, g__law_order T  F31, b31⟩
  have D32 : Dk l.prog w K mg base "_law_strong" "_law_strong" t__law_strong 2 ["n", "base"] (sp__law_strong K) := ⟨_, _, F32, PySem.W.mg_of X G a32, g__law_strong T D30 F32, b32⟩
  have D33 : Dk l.prog w K mg base "_law_are_known_right" "_law_are_known_right" t__law_are_known_right 7 ["pot", "known"] (sp__law_are_known_right K) := ⟨_, _, F33, PySem.W.mg_of X G a33, g__law_are_known_right T D26 D27 D14 D15 D29 D13 F33, b33⟩
  have D34 : Dk l.prog w K mg base "_law_pot" "_law_pot" t__law_pot 1 ["script"] (sp__law_pot K) := ⟨_, _, F34, PySem.W.mg_of X G a34, g__law_pot T  F34, b34⟩
  exact g_law T D34 D26 D27 D29 D30 D6 D7 D28 D31 D20 D22 D10 D19 D18 D13 D3 D32 D9 D12 D24 D25 D23 D33 F35
theorem walk_law {l : PySem.W.OpenLaw} {q : Program} {loose : List Str} {XP : (Str → Option Value) → Heap → Prop} {YP : World → Heap → Prop} {d : DefRec} {K : Params → PySem.W.Frag} (main : ∀ ns : List Int, ns.length ≤ 63 → (∀ i ∈ ns, Builtin.Int.intBits i ≤ 1048576) → okLaw ns) (hn : l.most = some 63) (hdf : d.params.defaults = [])
    (hY : ∀ (w : World) (h : Heap), YP w h → (K w.params).In h)
    (F : ∀ (w : World) (mg : Str → Option Value) (fa : Addr) (h : Heap), (K w.params).In h → h.Ns mainGlobals mg → mg d.name = some (.ref fa) →
      ∃ fd : FuncData, (∀ (s : Shared) (u : Value), BindsTo s fd ⟨[u], []⟩ [("script", u)]) ∧ ∀ base : Heap, (K w.params).In base → base.Ns mainGlobals mg → base.NoDigits → FnG l.prog w (K w.params) mg base CX0 8 fa fd ["script"] (spLaw (K w.params) okLaw)) :
    PySem.W.WalkO q loose XP YP l.row.toRowW d [] (fun f vs => PySem.call f vs) :=
  walk_G (n := 63) (k := 8) (x := "script") (CX := CX0) (sp := fun K => spLaw K okLaw) hn (by decide) hdf ⟨rfl, by decide, by decide⟩ hY F (fun K H a ns hl hb hS => ⟨ns, ⟨.ref a, rfl, a, rfl, hS⟩, main ns hl hb, fun _ => rfl⟩) fun _ _ _ _ z => z
end Wk
open PySem PySem.W PyProof.Rows in
set_option maxRecDepth 100000 in
set_option maxHeartbeats 0 in
theorem PySem.Challenge.cw_divisorways_k91_whole_passes_and_orders_holds : PySem.Challenge.rw_divisorways_k91_whole_passes_and_orders.Holds := by
  w_on; o_law; k_head; (case hw => w_witness2)
  k_fill
  refine Wk.walk_law (l := PySem.Challenge.rw_divisorways_k91_whole_passes_and_orders) Wk.main_law rfl rfl (fun w h Y => PySem.W.kIn_of Y) ?F
  case F =>
    intro w mg fa h KX G hmg
    refine' Wk.all_mk KX G hmg ?a0 ?l0 ?c0 ?k0 ?a1 ?l1 ?c1 ?k1 ?a2 ?l2 ?c2 ?k2 ?a3 ?l3 ?c3 ?k3 ?a4 ?l4 ?c4 ?k4 ?a5 ?l5 ?c5 ?k5 ?a6 ?l6 ?c6 ?k6 ?a7 ?l7 ?c7 ?k7 ?a8 ?l8 ?c8 ?k8 ?a9 ?l9 ?c9 ?k9 ?a10 ?l10 ?c10 ?k10 ?a11 ?l11 ?c11 ?k11 ?a12 ?l12 ?c12 ?k12 ?a13 ?l13 ?c13 ?k13 ?a14 ?l14 ?c14 ?k14 ?a15 ?l15 ?c15 ?k15 ?a16 ?l16 ?c16 ?k16 ?a17 ?l17 ?c17 ?k17 ?a18 ?l18 ?c18 ?k18 ?a19 ?l19 ?c19 ?k19 ?a20 ?l20 ?c20 ?k20 ?a21 ?l21 ?c21 ?k21 ?a22 ?l22 ?c22 ?k22 ?a23 ?l23 ?c23 ?k23 ?a24 ?l24 ?c24 ?k24 ?a25 ?l25 ?c25 ?k25 ?a26 ?l26 ?c26 ?k26 ?a27 ?l27 ?c27 ?k27 ?a28 ?l28 ?c28 ?k28 ?a29 ?l29 ?c29 ?k29 ?a30 ?l30 ?c30 ?k30 ?a31 ?l31 ?c31 ?k31 ?a32 ?l32 ?c32 ?k32 ?a33 ?l33 ?c33 ?k33 ?a34 ?l34 ?c34 ?k34 ?a35 ?l35 ?c35 ?k35 ?z0 ?z1 ?z2 ?z3 ?z4 ?z5 ?z6 ?z7 ?z8 ?z9 ?z10 ?y0
    (case a0 => k_is)
    (case l0 => k_is)
    (case c0 => k_is)
    (case k0 => k_is)
    (case a1 => k_is)
    (case l1 => k_is)
    (case c1 => k_is)
    (case k1 => k_is)
    (case a2 => k_is)
    (case l2 => k_is)
    (case c2 => k_is)
    (case k2 => k_is)
    (case a3 => k_is)
    (case l3 => k_is)
    (case c3 => k_is)
    (case k3 => k_is)
    (case a4 => k_is)
    (case l4 => k_is)
    (case c4 => k_is)
    (case k4 => k_is)
    (case a5 => k_is)
    (case l5 => k_is)
    (case c5 => k_is)
    (case k5 => k_is)
    (case a6 => k_is)
    (case l6 => k_is)
    (case c6 => k_is)
    (case k6 => k_is)
    (case a7 => k_is)
    (case l7 => k_is)
    (case c7 => k_is)
    (case k7 => k_is)
    (case a8 => k_is)
    (case l8 => k_is)
    (case c8 => k_is)
    (case k8 => k_is)
    (case a9 => k_is)
    (case l9 => k_is)
    (case c9 => k_is)
    (case k9 => k_is)
    (case a10 => k_is)
    (case l10 => k_is)
    (case c10 => k_is)
    (case k10 => k_is)
    (case a11 => k_is)
    (case l11 => k_is)
    (case c11 => k_is)
    (case k11 => k_is)
    (case a12 => k_is)
    (case l12 => k_is)
    (case c12 => k_is)
    (case k12 => k_is)
    (case a13 => k_is)
    (case l13 => k_is)
    (case c13 => k_is)
    (case k13 => k_is)
    (case a14 => k_is)
    (case l14 => k_is)
    (case c14 => k_is)
    (case k14 => k_is)
    (case a15 => k_is)
    (case l15 => k_is)
    (case c15 => k_is)
    (case k15 => k_is)
    (case a16 => k_is)
    (case l16 => k_is)
    (case c16 => k_is)
    (case k16 => k_is)
    (case a17 => k_is)
    (case l17 => k_is)
    (case c17 => k_is)
    (case k17 => k_is)
    (case a18 => k_is)
    (case l18 => k_is)
    (case c18 => k_is)
    (case k18 => k_is)
    (case a19 => k_is)
    (case l19 => k_is)
    (case c19 => k_is)
    (case k19 => k_is)
    (case a20 => k_is)
    (case l20 => k_is)
    (case c20 => k_is)
    (case k20 => k_is)
    (case a21 => k_is)
    (case l21 => k_is)
    (case c21 => k_is)
    (case k21 => k_is)
    (case a22 => k_is)
    (case l22 => k_is)
    (case c22 => k_is)
    (case k22 => k_is)
    (case a23 => k_is)
    (case l23 => k_is)
    (case c23 => k_is)
    (case k23 => k_is)
    (case a24 => k_is)
    (case l24 => k_is)
    (case c24 => k_is)
    (case k24 => k_is)
    (case a25 => k_is)
    (case l25 => k_is)
    (case c25 => k_is)
    (case k25 => k_is)
    (case a26 => k_is)
    (case l26 => k_is)
    (case c26 => k_is)
    (case k26 => k_is)
    (case a27 => k_is)
    (case l27 => k_is)
    (case c27 => k_is)
    (case k27 => k_is)
    (case a28 => k_is)
    (case l28 => k_is)
    (case c28 => k_is)
    (case k28 => k_is)
    (case a29 => k_is)
    (case l29 => k_is)
    (case c29 => k_is)
    (case k29 => k_is)
    (case a30 => k_is)
    (case l30 => k_is)
    (case c30 => k_is)
    (case k30 => k_is)
    (case a31 => k_is)
    (case l31 => k_is)
    (case c31 => k_is)
    (case k31 => k_is)
    (case a32 => k_is)
    (case l32 => k_is)
    (case c32 => k_is)
    (case k32 => k_is)
    (case a33 => k_is)
    (case l33 => k_is)
    (case c33 => k_is)
    (case k33 => k_is)
    (case a34 => k_is)
    (case l34 => k_is)
    (case c34 => k_is)
    (case k34 => k_is)
    (case a35 => k_is)
    (case l35 => k_is)
    (case c35 => k_is)
    (case k35 => k_is)
    (case z0 => k_is)
    (case z1 => k_is)
    (case z2 => k_is)
    (case z3 => k_is)
    (case z4 => k_is)
    (case z5 => k_is)
    (case z6 => k_is)
    (case z7 => k_is)
    (case z8 => k_is)
    (case z9 => k_is)
    (case z10 => k_is)
    (case y0 => k_is)
