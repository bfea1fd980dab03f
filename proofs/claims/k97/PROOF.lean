import PyProof.Rows.All
import Wide.All
import OpenK.AllK
import Wide.FinOn
import HandS.ForMost
import HandS.Wide
import HandS.WideBits
import HandS.Style
import HandS.EndBits
import PyProof.ReprRoads
import PyProof.ReprLen
import PyProof.StrLawsRepr
import PyProof.FitsInt
import HandS.More
import PySem.Challenge.RW_divisorways_k97_whole_factorial_parts
set_option Elab.async false
set_option maxRecDepth 100000
set_option maxHeartbeats 4000000
set_option linter.all false
/-! W0: worlds, the mirror's monads, the judgement of an expression and its mirror in lockstep -/
namespace Wk
open PySem L2
open PyProof.Rows hiding St

/-! ### heaps -/
def Ex (S H : Hp) : Prop := ∀ a o, S a = some o → H a = some o
theorem Ex.rf {S : Hp} : Ex S S := fun _ _ h => h
theorem Ex.tr {S H K : Hp} (a : Ex S H) (b : Ex H K) : Ex S K := fun x o h => b x o (a x o h)
theorem Ex.no {S H : Hp} (e : Ex S H) {a : Addr} (h : H a = none) : S a = none := by
  cases q : S a with
  | none => rfl
  | some o => rw [e a o q] at h; cases h
structure Gm (M : List Addr) (S H S' H' : Hp) : Prop where
  s : Ex S S'
  i : Ex S' H'
  h : ∀ a o, a ∉ M → H a = some o → H' a = some o
  f : ∀ a o, H a = some o → S a = none → S' a = none
  t : ∀ a o, H a = some o → ∃ u, H' a = some u
theorem Gm.rf {M : List Addr} {S H : Hp} (e : Ex S H) : Gm M S H S H := ⟨Ex.rf, e, fun _ _ _ h => h, fun _ _ _ h => h, fun _ o h => ⟨o, h⟩⟩
theorem Gm.tr {M : List Addr} {S H S1 H1 S2 H2 : Hp} (a : Gm M S H S1 H1) (b : Gm M S1 H1 S2 H2) : Gm M S H S2 H2 :=
  ⟨a.s.tr b.s, b.i, fun x o m h => b.h x o m (a.h x o m h), fun x o h n => let ⟨u, q⟩ := a.t x o h; b.f x u q (a.f x o h n), fun x o h => let ⟨u, q⟩ := a.t x o h; b.t x u q⟩
theorem Gm.up {M : List Addr} {S H S1 H1 : Hp} (a : Gm [] S H S1 H1) : Gm M S H S1 H1 := ⟨a.s, a.i, fun x o _ h => a.h x o (by simp) h, a.f, a.t⟩
/-- a new object that stays as it is -/
theorem Gm.new {M : List Addr} {S H : Hp} {p : Addr} {o : HO} (e : Ex S H) (n : H p = none) : Gm M S H (upd S p o) (upd H p o) := by
  have ns := e.no n
  refine ⟨fun a u h => ?_, fun a u h => ?_, fun a u _ h => ?_, fun a u h m => ?_, fun a u h => ⟨u, ?_⟩⟩
  · rw [upd_ne (ne_of_none h ns)]; exact h
  · by_cases q : a = p
    · subst q; rw [upd_same] at h ⊢; exact h
    · rw [upd_ne q] at h ⊢; exact e a u h
  · rw [upd_ne (ne_of_none h n)]; exact h
  · rw [upd_ne (ne_of_none h n)]; exact m
  · rw [upd_ne (ne_of_none h n)]; exact h
/-- a new object that may change -/
theorem Gm.own {M : List Addr} {S H : Hp} {p : Addr} {o : HO} (e : Ex S H) (n : H p = none) : Gm M S H S (upd H p o) := by
  refine ⟨Ex.rf, fun a u h => ?_, fun a u _ h => ?_, fun a u h m => m, fun a u h => ⟨u, ?_⟩⟩
  · rw [upd_ne (ne_of_none (e a u h) n)]; exact e a u h
  · rw [upd_ne (ne_of_none h n)]; exact h
  · rw [upd_ne (ne_of_none h n)]; exact h

/-! ### what changes beside: a lot of cells -/
structure Pt (τ : Type) where
  M : List Addr
  cells : τ → List (Addr × HO)
  adr : ∀ s, (cells s).map (·.1) = M
  nd : M.Nodup
def pt0 : Pt Unit := ⟨[], fun _ => [], fun _ => rfl, List.nodup_nil⟩
def PotAt {τ : Type} (p : Pt τ) (s : τ) (S H : Hp) : Prop := ∀ c ∈ p.cells s, H c.1 = some c.2 ∧ S c.1 = none
theorem pot0 {S H : Hp} : PotAt pt0 () S H := fun _ h => nomatch h
theorem PotAt.go {τ : Type} {p : Pt τ} {s : τ} {S H S1 H1 : Hp} (a : PotAt p s S H) (g : Gm [] S H S1 H1) : PotAt p s S1 H1 := fun c hc =>
  ⟨g.h _ _ (by simp) (a c hc).1, g.f _ _ (a c hc).1 (a c hc).2⟩

/-! ### the mirror's monads -/
class Mir (μ : Type → Type) (τ : outParam Type) extends Monad μ where
  run : {α : Type} → μ α → τ → Option (α × τ)
  run_pure : ∀ {α : Type} (a : α) (s : τ), run (pure a : μ α) s = some (a, s)
  run_bind : ∀ {α β : Type} (m : μ α) (k : α → μ β) (s : τ), run (m >>= k) s = (run m s).bind fun z => run (k z.1) z.2
  lft : {α : Type} → Option α → μ α
  run_lft : ∀ {α : Type} (o : Option α) (s : τ), run (lft o : μ α) s = o.map fun a => (a, s)
instance : Mir Option Unit where
  run o _ := o.map fun a => (a, ())
  run_pure _ _ := rfl
  run_bind m k s := by cases m <;> rfl
  lft o := o
  run_lft _ _ := rfl
def PM (τ α : Type) : Type := τ → Option (α × τ)
instance (τ : Type) : Monad (PM τ) where
  pure a := fun s => some (a, s)
  bind m k := fun s => (m s).bind fun z => k z.1 z.2
instance (τ : Type) : Mir (PM τ) τ where
  run m s := m s
  run_pure _ _ := rfl
  run_bind _ _ _ := rfl
  lft o := fun s => o.map fun a => (a, s)
  run_lft _ _ := rfl
/-- a name for a value -/
def bnd {α β : Type} (a : α) (k : α → β) : β := k a
/-- a condition that must hold -/
def grd (c : Prop) [Decidable c] : Option Unit := if c then some () else none
section
variable {μ : Type → Type} {τ : Type} [Mir μ τ] {α β : Type}
theorem run_of_bind {m : μ α} {k : α → μ β} {s : τ} {z : β × τ} (h : Mir.run (m >>= k) s = some z) : ∃ a s1, Mir.run m s = some (a, s1) ∧ Mir.run (k a) s1 = some z := by
  rw [Mir.run_bind] at h
  cases e : Mir.run m s with
  | none => rw [e] at h; cases h
  | some y => rw [e] at h; exact ⟨y.1, y.2, rfl, h⟩
theorem run_of_lft {o : Option α} {k : α → μ β} {s : τ} {z : β × τ} (h : Mir.run (Mir.lft o >>= k) s = some z) : ∃ a, o = some a ∧ Mir.run (k a) s = some z := by
  obtain ⟨a, s1, h1, h2⟩ := run_of_bind h
  rw [Mir.run_lft] at h1
  cases e : o with
  | none => rw [e] at h1; cases h1
  | some y =>
    rw [e] at h1
    have q : (y, s) = (a, s1) := Option.some.inj h1
    cases q
    exact ⟨_, rfl, h2⟩
theorem run_of_pure {a : α} {s : τ} {z : α × τ} (h : Mir.run (pure a : μ α) s = some z) : z = (a, s) := by
  rw [Mir.run_pure] at h
  exact (Option.some.inj h).symm
theorem run_of_pureB {a : α} {k : α → μ β} {s : τ} {z : β × τ} (h : Mir.run (pure a >>= k) s = some z) : Mir.run (k a) s = some z := by
  obtain ⟨b, s1, h1, h2⟩ := run_of_bind h
  cases run_of_pure h1
  exact h2
theorem grd_of {c : Prop} [Decidable c] {u : Unit} (h : grd c = some u) : c := by
  unfold grd at h
  split at h
  · assumption
  · cases h
end

/-! ### what stands for what -/
abbrev Rp (α : Type) := α → V → Hp → Prop
abbrev Rq (α : Type) := α → List V → Hp → Prop
class Mo {α β : Type} (R : α → β → Hp → Prop) : Prop where
  mo : ∀ {a : α} {v : β} {S S' : Hp}, Ex S S' → R a v S → R a v S'
def rI : Rp Int := fun a v _ => v = .int a
def rB : Rp Bool := fun a v _ => v = .bl a
def rS : Rp Str := fun a v _ => v = .str a
def rN : Rp Unit := fun _ v _ => v = .non
instance : Mo rI := ⟨fun _ h => h⟩
instance : Mo rB := ⟨fun _ h => h⟩
instance : Mo rS := ⟨fun _ h => h⟩
instance : Mo rN := ⟨fun _ h => h⟩
/-- None or a value -/
def rO {α : Type} (R : Rp α) : Rp (Option α) := fun a v S => match a with | none => v = .non | some x => R x v S
instance {α : Type} (R : Rp α) [Mo R] : Mo (rO R) := ⟨fun {a v S S'} e h => by
  cases a with
  | none => exact h
  | some x => exact Mo.mo (R := R) e h⟩
/-- one or the other -/
def rU {α β : Type} (R : Rp α) (R' : Rp β) : Rp (α ⊕ β) := fun a v S => match a with | .inl x => R x v S | .inr y => R' y v S
instance {α β : Type} (R : Rp α) (R' : Rp β) [Mo R] [Mo R'] : Mo (rU R R') := ⟨fun {a v S S'} e h => by
  cases a with
  | inl x => exact Mo.mo (R := R) e h
  | inr x => exact Mo.mo (R := R') e h⟩
def aNil : Rq Unit := fun _ vs _ => vs = []
def aOne {α : Type} (R : Rp α) : Rq α := fun a vs S => ∃ v, vs = [v] ∧ R a v S
def aCons {α β : Type} (R : Rp α) (A : Rq β) : Rq (α × β) := fun a vs S => ∃ v r, vs = v :: r ∧ R a.1 v S ∧ A a.2 r S
inductive All {α : Type} (R : Rp α) (S : Hp) : List α → List V → Prop
  | nil : All R S [] []
  | cons {a : α} {as : List α} {v : V} {vs : List V} : R a v S → All R S as vs → All R S (a :: as) (v :: vs)
def aAll {α : Type} (R : Rp α) : Rq (List α) := fun xs vs S => All R S xs vs
instance : Mo aNil := ⟨fun _ h => h⟩
instance {α : Type} (R : Rp α) [Mo R] : Mo (aOne R) := ⟨fun e ⟨v, h1, h2⟩ => ⟨v, h1, Mo.mo e h2⟩⟩
instance {α β : Type} (R : Rp α) (A : Rq β) [Mo R] [Mo A] : Mo (aCons R A) := ⟨fun e ⟨v, r, h1, h2, h3⟩ => ⟨v, r, h1, Mo.mo e h2, Mo.mo e h3⟩⟩
theorem All.mo {α : Type} {R : Rp α} [Mo R] {S S' : Hp} (e : Ex S S') : ∀ {xs : List α} {vs : List V}, All R S xs vs → All R S' xs vs
  | _, _, .nil => .nil
  | _, _, .cons h t => .cons (Mo.mo e h) (t.mo e)
instance {α : Type} (R : Rp α) [Mo R] : Mo (aAll R) := ⟨fun e h => All.mo e h⟩
theorem All.len {α : Type} {R : Rp α} {S : Hp} : ∀ {xs : List α} {vs : List V}, All R S xs vs → xs.length = vs.length
  | _, _, .nil => rfl
  | _, _, .cons _ t => by simp [t.len]
theorem All.get {α : Type} {R : Rp α} {S : Hp} : ∀ {xs : List α} {vs : List V} {i : Nat} {x : α}, All R S xs vs → xs[i]? = some x → ∃ v, vs[i]? = some v ∧ R x v S
  | _, _, _, _, .nil, e => by simp at e
  | _, _, 0, _, .cons h _, e => by simp at e; subst e; exact ⟨_, rfl, h⟩
  | _, _, i + 1, x, .cons _ t, e => by
    obtain ⟨v, h1, h2⟩ := t.get (i := i) (x := x) (by simpa using e)
    exact ⟨v, by simpa using h1, h2⟩
theorem All.app {α : Type} {R : Rp α} {S : Hp} : ∀ {xs ys : List α} {vs us : List V}, All R S xs vs → All R S ys us → All R S (xs ++ ys) (vs ++ us)
  | _, _, _, _, .nil, h => h
  | _, _, _, _, .cons h t, g => .cons h (t.app g)
theorem All.take {α : Type} {R : Rp α} {S : Hp} : ∀ {xs : List α} {vs : List V} (n : Nat), All R S xs vs → All R S (xs.take n) (vs.take n)
  | _, _, 0, _ => .nil
  | _, _, _ + 1, .nil => .nil
  | _, _, n + 1, .cons h t => .cons h (t.take n)
theorem All.drop {α : Type} {R : Rp α} {S : Hp} : ∀ {xs : List α} {vs : List V} (n : Nat), All R S xs vs → All R S (xs.drop n) (vs.drop n)
  | _, _, 0, h => h
  | _, _, _ + 1, .nil => .nil
  | _, _, n + 1, .cons _ t => t.drop n
theorem All.set {α : Type} {R : Rp α} {S : Hp} {x : α} {v : V} (h : R x v S) : ∀ {xs : List α} {vs : List V} (n : Nat), All R S xs vs → All R S (xs.set n x) (vs.set n v)
  | _, _, _, .nil => .nil
  | _, _, 0, .cons _ t => .cons h t
  | _, _, n + 1, .cons g t => .cons g (t.set h n)
theorem All.ints {S : Hp} : ∀ {xs : List Int} {vs : List V}, All rI S xs vs → vs = xs.map V.int
  | _, _, .nil => rfl
  | _, _, .cons h t => by rw [t.ints, show _ = V.int _ from h]; rfl
theorem All.ofInts {S : Hp} : ∀ xs : List Int, All rI S xs (xs.map V.int)
  | [] => .nil
  | x :: xs => .cons rfl (All.ofInts xs)
theorem All.bools {S : Hp} : ∀ {xs : List Bool} {vs : List V}, All rB S xs vs → vs = xs.map V.bl
  | _, _, .nil => rfl
  | _, _, .cons h t => by rw [t.bools, show _ = V.bl _ from h]; rfl
/-- a tuple, a list that stays -/
def rT {α : Type} (K : PySem.W.Frag) (A : Rq α) : Rp α := fun a v S => ∃ p vs, v = .ref p ∧ SqT K S p vs ∧ A a vs S
def rL {α : Type} (A : Rq α) : Rp α := fun a v S => ∃ p vs, v = .ref p ∧ S p = some (.lst vs) ∧ A a vs S
theorem rd_ex {S S' : Hp} (e : Ex S S') {a : Addr} {u : HO} (h : Rd S a u) : Rd S' a u := by
  rcases h with h | ⟨o, h⟩
  · exact .inl (e _ _ h)
  · exact .inr ⟨o, e _ _ h⟩
theorem sqT_ex {K : PySem.W.Frag} {S S' : Hp} (e : Ex S S') {a : Addr} {xs : List V} (h : SqT K S a xs) : SqT K S' a xs := by
  rcases h with h | h
  · exact .inl (rd_ex e h)
  · exact .inr h
theorem sqL_ex {K : PySem.W.Frag} {S S' : Hp} (e : Ex S S') {a : Addr} {xs : List V} (h : SqL K S a xs) : SqL K S' a xs := by
  rcases h with h | h
  · exact .inl (rd_ex e h)
  · exact .inr h
instance {α : Type} (K : PySem.W.Frag) (A : Rq α) [Mo A] : Mo (rT K A) := ⟨fun e ⟨p, vs, h1, h2, h3⟩ => ⟨p, vs, h1, sqT_ex e h2, Mo.mo e h3⟩⟩
instance {α : Type} (A : Rq α) [Mo A] : Mo (rL A) := ⟨fun e ⟨p, vs, h1, h2, h3⟩ => ⟨p, vs, h1, e _ _ h2, Mo.mo e h3⟩⟩

/-! ### the judgements: the program's reading and the mirror go in lockstep -/
section
variable {μ : Type → Type} {τ : Type} [Mir μ τ] {α β γ δ : Type}
def Ev (p : Pt τ) (te : TE) (σ : St) (S H : Hp) (m : (α → μ β) → μ β) (R : Rp α) : Prop :=
  ∀ S1 H1 s, Gm p.M S H S1 H1 → PotAt p s S1 H1 → ∀ (k : α → μ β) z, Mir.run (m k) s = some z → ∀ Q : VK,
    (∀ a v S2 H2 s2, Gm p.M S1 H1 S2 H2 → PotAt p s2 S2 H2 → R a v S2 → Mir.run (k a) s2 = some z → Q v H2) → te σ H1 Q
/-- a new list -/
def EvL (p : Pt τ) (te : TE) (σ : St) (S H : Hp) (m : (α → μ β) → μ β) (A : Rq α) : Prop :=
  ∀ S1 H1 s, Gm p.M S H S1 H1 → PotAt p s S1 H1 → ∀ (k : α → μ β) z, Mir.run (m k) s = some z → ∀ Q : VK,
    (∀ a q vs S2 H2 s2, Gm p.M S1 H1 S2 H2 → PotAt p s2 S2 H2 → H1 q = none → H2 q = some (.lst vs) → S2 q = none → q ∉ p.M → A a vs S2 → Mir.run (k a) s2 = some z → Q (.ref q) H2) → te σ H1 Q
/-- a list that can be read -/
def EvR (p : Pt τ) (te : TE) (σ : St) (S H : Hp) (m : (α → μ β) → μ β) (A : Rq α) : Prop :=
  ∀ S1 H1 s, Gm p.M S H S1 H1 → PotAt p s S1 H1 → ∀ (k : α → μ β) z, Mir.run (m k) s = some z → ∀ Q : VK,
    (∀ a q vs S2 H2 s2, Gm p.M S1 H1 S2 H2 → PotAt p s2 S2 H2 → H2 q = some (.lst vs) → q ∉ p.M → A a vs S2 → Mir.run (k a) s2 = some z → Q (.ref q) H2) → te σ H1 Q
def EvT (p : Pt τ) (tt : TT) (σ : St) (S H : Hp) (m : (Bool → μ β) → μ β) : Prop :=
  ∀ S1 H1 s, Gm p.M S H S1 H1 → PotAt p s S1 H1 → ∀ (k : Bool → μ β) z, Mir.run (m k) s = some z → ∀ Q : Bool → Hp → Prop,
    (∀ b S2 H2 s2, Gm p.M S1 H1 S2 H2 → PotAt p s2 S2 H2 → Mir.run (k b) s2 = some z → Q b H2) → tt σ H1 Q
def EvA (p : Pt τ) (ta : TA) (σ : St) (S H : Hp) (m : (α → μ β) → μ β) (A : Rq α) : Prop :=
  ∀ S1 H1 s, Gm p.M S H S1 H1 → PotAt p s S1 H1 → ∀ (k : α → μ β) z, Mir.run (m k) s = some z → ∀ Q : List V → Hp → Prop,
    (∀ a vs S2 H2 s2, Gm p.M S1 H1 S2 H2 → PotAt p s2 S2 H2 → A a vs S2 → Mir.run (k a) s2 = some z → Q vs H2) → ta σ H1 Q
variable {p : Pt τ} {σ : St} {S H : Hp} {te ta tb : TE} {tt tu : TT}
theorem Ev.go {m : (α → μ β) → μ β} {R : Rp α} {S1 H1 : Hp} (h : Ev p te σ S H m R) (g : Gm p.M S H S1 H1) : Ev p te σ S1 H1 m R :=
  fun S2 H2 s g2 ps => h S2 H2 s (g.tr g2) ps

theorem e_var {i : Nat} {a : α} {v : V} {R : Rp α} [Mo R] (e : σ[i]? = some (some v)) (r : R a v S) : Ev (μ := μ) (β := β) p (tVar i) σ S H (fun k => k a) R :=
  fun _ _ _ g ps _ _ hm _ q => ⟨v, e, q _ _ _ _ _ (Gm.rf g.i) ps (Mo.mo g.s r) hm⟩
theorem e_cI {i : Int} : Ev (μ := μ) (β := β) p (tC (.int i)) σ S H (fun k => k i) rI := fun _ _ _ g ps _ _ hm _ q => q _ _ _ _ _ (Gm.rf g.i) ps rfl hm
theorem e_cB {b : Bool} : Ev (μ := μ) (β := β) p (tC (.bl b)) σ S H (fun k => k b) rB := fun _ _ _ g ps _ _ hm _ q => q _ _ _ _ _ (Gm.rf g.i) ps rfl hm
theorem e_cS {x : Str} : Ev (μ := μ) (β := β) p (tC (.str x)) σ S H (fun k => k x) rS := fun _ _ _ g ps _ _ hm _ q => q _ _ _ _ _ (Gm.rf g.i) ps rfl hm
theorem e_cN : Ev (μ := μ) (β := β) p (tC .non) σ S H (fun k => k ()) rN := fun _ _ _ g ps _ _ hm _ q => q _ _ _ _ _ (Gm.rf g.i) ps rfl hm
/-- a value is also one of more kinds -/
theorem Ev.map {m : (α → μ β) → μ β} {R : Rp α} {R' : Rp γ} (f : α → γ) (h : Ev p te σ S H m R) (hr : ∀ a v S, R a v S → R' (f a) v S) : Ev p te σ S H (fun k => m fun a => k (f a)) R' :=
  fun S1 H1 s g ps k z hm Q q => h S1 H1 s g ps _ z hm Q fun a v S2 H2 s2 g2 p2 r hm2 => q _ v S2 H2 s2 g2 p2 (hr _ _ _ r) hm2
theorem Ev.some {m : (α → μ β) → μ β} {R : Rp α} (h : Ev p te σ S H m R) : Ev p te σ S H (fun k => m fun a => k (Option.some a)) (rO R) := h.map Option.some fun _ _ _ r => r
theorem Ev.none {m : (Unit → μ β) → μ β} {R : Rp α} (h : Ev p te σ S H m rN) : Ev p te σ S H (fun k => m fun _ => k Option.none) (rO R) := h.map (fun _ => Option.none) fun _ _ _ r => r
theorem Ev.inl {m : (α → μ β) → μ β} {R : Rp α} {R' : Rp γ} (h : Ev p te σ S H m R) : Ev p te σ S H (fun k => m fun a => k (Sum.inl a)) (rU R R') := h.map Sum.inl fun _ _ _ r => r
theorem Ev.inr {m : (α → μ β) → μ β} {R : Rp α} {R' : Rp γ} (h : Ev p te σ S H m R) : Ev p te σ S H (fun k => m fun a => k (Sum.inr a)) (rU R' R) := h.map Sum.inr fun _ _ _ r => r

/-! operators of two ints -/
theorem e_op {r : R2} {mA mB : (Int → μ β) → μ β} {f : Int → Int → (γ → μ β) → μ β} {R : Rp γ} (ha : Ev p ta σ S H mA rI) (hb : Ev p tb σ S H mB rI)
    (hr : ∀ i j H1 S1 s, Ex S1 H1 → ∀ (k : γ → μ β) z, Mir.run (f i j k) s = some z → ∀ Q : VK, (∀ c v, R c v S1 → Mir.run (k c) s = some z → Q v H1) → r (.int i) (.int j) H1 Q) :
    Ev p (tOp r ta tb) σ S H (fun k => mA fun i => mB fun j => f i j k) R := fun S1 H1 s g ps k z hm Q q =>
  ha S1 H1 s g ps _ z hm _ fun i v S2 H2 s2 g2 p2 r2 hm2 => hb S2 H2 s2 (g.tr g2) p2 _ z hm2 _ fun j u S3 H3 s3 g3 p3 r3 hm3 => by
    cases (show v = .int i from r2)
    cases (show u = .int j from r3)
    exact hr i j H3 S3 s3 g3.i k z hm3 Q fun c w rc hk => q c w S3 H3 s3 (g2.tr g3) p3 rc hk
/-- a total operator -/
theorem e_op0 {C : Int → Int → V} {D : Int → Int → γ} {mA mB : (Int → μ β) → μ β} {R : Rp γ} (ha : Ev p ta σ S H mA rI) (hb : Ev p tb σ S H mB rI) (hR : ∀ i j S, R (D i j) (C i j) S) :
    Ev p (tOp (rI0 C) ta tb) σ S H (fun k => mA fun i => mB fun j => k (D i j)) R :=
  e_op (f := fun i j k => k (D i j)) ha hb fun i j _ S1 s _ k z hm Q q => ⟨i, j, rfl, rfl, q _ _ (hR i j S1) hm⟩
/-- one with a condition -/
theorem e_opC {P : Int → Int → Prop} {C : Int → Int → V} {D : Int → Int → γ} {c : Int → Int → Prop} [∀ i j, Decidable (c i j)] {mA mB : (Int → μ β) → μ β} {R : Rp γ} (ha : Ev p ta σ S H mA rI) (hb : Ev p tb σ S H mB rI)
    (hc : ∀ i j, c i j → P i j) (hR : ∀ i j S, c i j → R (D i j) (C i j) S) :
    Ev p (tOp (L2.rI P C) ta tb) σ S H (fun k => mA fun i => mB fun j => Mir.lft (grd (c i j)) >>= fun _ => k (D i j)) R :=
  e_op (f := fun i j k => Mir.lft (grd (c i j)) >>= fun _ => k (D i j)) ha hb fun i j _ S1 s _ k z hm Q q => by
    obtain ⟨_, e, hm⟩ := run_of_lft hm
    have h := grd_of e
    exact ⟨i, j, rfl, rfl, hc i j h, q _ _ (hR i j S1 h) hm⟩
end
/-- of a size that no bound of the model meets -/
def Sm (a : Int) : Prop := a.natAbs.log2 < 60000000
instance (a : Int) : Decidable (Sm a) := inferInstanceAs (Decidable (_ < _))
theorem Sm.of {a : Int} {n : Nat} (h : a.natAbs < 2 ^ n) (h0 : 0 < n) (hn : n ≤ 60000000) : Sm a := Nat.lt_of_lt_of_le (PySem.Flt.log2_lt_of h0 h) hn
theorem bits_log (a : Int) : Builtin.Int.intBits a ≤ a.natAbs.log2 + 1 := by
  unfold Builtin.Int.intBits
  split <;> omega
theorem Sm.mul {a b : Int} (h : Sm a ∧ Sm b) : CMulX a b := by
  have h1 := bits_log a
  have h2 := bits_log b
  unfold Sm at h
  unfold CMulX
  omega
end Wk
set_option Elab.async false
set_option maxRecDepth 100000
set_option maxHeartbeats 4000000
set_option linter.all false
/-! W1: the world of a def's body, statements, loops, comprehensions -/
namespace Wk
open PySem L2
open PyProof.Rows hiding St
section
variable {μ : Type → Type} {τ : Type} [Mir μ τ] {α β γ δ : Type} {p : Pt τ} {σ : St} {S H S0 H0 : Hp} {te ta tb : TE} {tt : TT} {L : List (Addr × HO)} {K : PySem.W.Frag}

/-- what a body knows: how it stands to its entry (S0, H0), its own objects L -/
structure Wd (p : Pt τ) (S0 H0 S H : Hp) (L : List (Addr × HO)) : Prop where
  g : Gm p.M S0 H0 S H
  o : ∀ c ∈ L, H c.1 = some c.2 ∧ S c.1 = none ∧ H0 c.1 = none
  n : (p.M ++ L.map (·.1)).Nodup
theorem Wd.start (e : Ex S H) : Wd p S H S H [] := ⟨Gm.rf e, fun _ h => (nomatch h), by simpa using p.nd⟩
theorem Wd.i (w : Wd p S0 H0 S H L) : Ex S H := w.g.i
theorem Wd.nm (w : Wd p S0 H0 S H L) {c : Addr × HO} (h : c ∈ L) : c.1 ∉ p.M := fun q => by
  have z := List.nodup_append.mp w.n
  exact z.2.2 c.1 q c.1 (List.mem_map_of_mem h) rfl
theorem Wd.go {S1 H1 : Hp} (w : Wd p S0 H0 S H L) (g : Gm p.M S H S1 H1) : Wd p S0 H0 S1 H1 L :=
  ⟨w.g.tr g, fun c h => ⟨g.h _ _ (w.nm h) (w.o c h).1, g.f _ _ (w.o c h).1 (w.o c h).2.1, (w.o c h).2.2⟩, w.n⟩
theorem Wd.add {S1 H1 : Hp} {q : Addr} {o : HO} (w : Wd p S0 H0 S H L) (g : Gm p.M S H S1 H1) (n : H q = none) (e : H1 q = some o) (s : S1 q = none) (m : q ∉ p.M) : Wd p S0 H0 S1 H1 ((q, o) :: L) := by
  have w1 := w.go g
  have n0 : H0 q = none := by
    cases z : H0 q with
    | none => rfl
    | some u =>
      obtain ⟨u', z'⟩ := w.g.t q u z
      rw [n] at z'; cases z'
  have nL : q ∉ L.map (·.1) := fun z => by
    obtain ⟨c, hc, e'⟩ := List.mem_map.mp z
    have := (w.o c hc).1
    rw [e', n] at this; cases this
  refine ⟨w1.g, fun c h => ?_, ?_⟩
  · rcases List.mem_cons.mp h with z | z
    · subst z; exact ⟨e, s, n0⟩
    · exact w1.o c z
  · have z := List.nodup_append.mp w.n
    rw [List.map_cons]
    refine List.nodup_append.mpr ⟨z.1, List.nodup_cons.mpr ⟨nL, z.2.1⟩, fun a ha b hb e' => ?_⟩
    rcases List.mem_cons.mp hb with z' | z'
    · have z2 : b = q := z'
      exact m (by rw [← z2, ← e']; exact ha)
    · exact z.2.2 a ha b z' e'
theorem Wd.at {i : Nat} {q : Addr} {o : HO} (w : Wd p S0 H0 S H L) (h : L[i]? = some (q, o)) : H q = some o ∧ S q = none ∧ H0 q = none := w.o (q, o) (List.mem_of_getElem? h)
theorem set_fst {q : Addr} {o o' : HO} : ∀ {L : List (Addr × HO)} {i : Nat}, L[i]? = some (q, o) → (L.set i (q, o')).map (·.1) = L.map (·.1)
  | [], _, h => by simp at h
  | c :: L, 0, h => by
    simp at h; subst h; rfl
  | c :: L, i + 1, h => by
    show c.1 :: (L.set i (q, o')).map (·.1) = c.1 :: L.map (·.1)
    rw [set_fst (i := i) (by simpa using h)]
theorem Gm.put {M : List Addr} {S1 H1 : Hp} {q : Addr} {o : HO} (g : Gm M S H S1 H1) (n : H q = none) (s : S1 q = none) : Gm M S H S1 (upd H1 q o) := by
  refine ⟨g.s, fun a u h => ?_, fun a u m h => ?_, g.f, fun a u h => ?_⟩
  · rw [upd_ne (ne_of_none h s)]; exact g.i a u h
  · rw [upd_ne (ne_of_none h n)]; exact g.h a u m h
  · rw [upd_ne (ne_of_none h n)]; exact g.t a u h
theorem Wd.put {i : Nat} {q : Addr} {o o' : HO} (w : Wd p S0 H0 S H L) (h : L[i]? = some (q, o)) : Wd p S0 H0 S (upd H q o') (L.set i (q, o')) := by
  obtain ⟨h1, h2, h3⟩ := w.at h
  refine ⟨w.g.put h3 h2, fun c hc => ?_, by rw [set_fst h]; exact w.n⟩
  have nd : (L.map (·.1)).Nodup := (List.nodup_append.mp w.n).2.1
  have hi : i < L.length := (List.getElem?_eq_some_iff.mp h).1
  obtain ⟨j, hj, e⟩ := List.mem_iff_getElem.mp hc
  by_cases ej : j = i
  · subst ej
    rw [List.getElem_set_self] at e
    subst e
    exact ⟨upd_same, h2, h3⟩
  · rw [List.getElem_set_ne (Ne.symm ej)] at e
    have hj' : j < L.length := by simpa using hj
    have mem : c ∈ L := by rw [← e]; exact List.getElem_mem hj'
    have ne : c.1 ≠ q := fun z => ej <| by
      have z1 : (L.map (·.1))[j]? = some q := by rw [List.getElem?_map, List.getElem?_eq_getElem hj', e]; simp [z]
      have z2 : (L.map (·.1))[i]? = some q := by rw [List.getElem?_map, h]; rfl
      exact nd_ix nd z1 z2
    obtain ⟨a, b, d⟩ := w.o c mem
    exact ⟨by rw [upd_ne ne]; exact a, b, d⟩
theorem PotAt.put {s : τ} {q : Addr} {o : HO} (a : PotAt p s S H) (m : q ∉ p.M) : PotAt p s S (upd H q o) := fun c hc => by
  have : c.1 ≠ q := fun z => m (by rw [← z, ← p.adr s]; exact List.mem_map_of_mem hc)
  exact ⟨by rw [upd_ne this]; exact (a c hc).1, (a c hc).2⟩
theorem PotAt.frz {s : τ} {q : Addr} {o : HO} (a : PotAt p s S H) (m : q ∉ p.M) : PotAt p s (upd S q o) H := fun c hc => by
  have : c.1 ≠ q := fun z => m (by rw [← z, ← p.adr s]; exact List.mem_map_of_mem hc)
  exact ⟨(a c hc).1, by rw [upd_ne this]; exact (a c hc).2⟩
theorem erase_sub {i : Nat} {c : Addr × HO} (h : c ∈ L.eraseIdx i) : c ∈ L := List.mem_of_mem_eraseIdx h
theorem ex_frz {q : Addr} {o : HO} (s : S q = none) : Ex S (upd S q o) := fun a u h => by rw [upd_ne (ne_of_none h s)]; exact h
/-- an own object stays from now on -/
theorem Wd.frz {i : Nat} {q : Addr} {o : HO} (w : Wd p S0 H0 S H L) (h : L[i]? = some (q, o)) : Wd p S0 H0 (upd S q o) H (L.eraseIdx i) := by
  obtain ⟨h1, h2, h3⟩ := w.at h
  have hi : i < L.length := (List.getElem?_eq_some_iff.mp h).1
  refine ⟨⟨w.g.s.tr (ex_frz h2), fun a u e => ?_, w.g.h, fun a u e n => ?_, w.g.t⟩, fun c hc => ?_, ?_⟩
  · by_cases z : a = q
    · subst z; rw [upd_same] at e; cases e; exact h1
    · rw [upd_ne z] at e; exact w.g.i a u e
  · rw [upd_ne (ne_of_none e h3)]; exact w.g.f a u e n
  · obtain ⟨a, b, d⟩ := w.o c (erase_sub hc)
    have nd : (L.map (·.1)).Nodup := (List.nodup_append.mp w.n).2.1
    have ne : c.1 ≠ q := fun z => by
      obtain ⟨j, hj, e⟩ := List.mem_iff_getElem.mp hc
      have e1 : L.eraseIdx i = L.take i ++ L.drop (i + 1) := List.eraseIdx_eq_take_drop_succ L i
      have e2 : L = L.take i ++ (q, o) :: L.drop (i + 1) := by
        have ev : L[i] = (q, o) := by
          have := List.getElem?_eq_getElem hi
          rw [h] at this
          exact (Option.some.inj this).symm
        rw [← ev]
        simp
      rw [e2, List.map_append, List.map_cons] at nd
      have nd' := List.nodup_append.mp nd
      rw [e1] at hc
      rcases List.mem_append.mp hc with z1 | z1
      · exact nd'.2.2 c.1 (List.mem_map_of_mem z1) q (by simp) z
      · exact (List.nodup_cons.mp nd'.2.1).1 (by show q ∈ _; rw [← z]; exact List.mem_map_of_mem (f := fun c : Addr × HO => c.1) z1)
    exact ⟨a, by rw [upd_ne ne]; exact b, d⟩
  · refine w.n.sublist (List.Sublist.append (List.Sublist.refl _) (List.Sublist.map _ (List.eraseIdx_sublist L i)))
theorem Wd.drop {i : Nat} (w : Wd p S0 H0 S H L) : Wd p S0 H0 S H (L.eraseIdx i) :=
  ⟨w.g, fun c h => w.o c (erase_sub h), w.n.sublist (List.Sublist.append (List.Sublist.refl _) (List.Sublist.map _ (List.eraseIdx_sublist L i)))⟩
/-- the values at some places -/
def pick {α : Type} (ix : List Nat) (l : List α) : List α := ix.filterMap fun i => l[i]?
theorem mem_pick {α : Type} {ix : List Nat} {l : List α} {a : α} (h : a ∈ pick ix l) : ∃ i ∈ ix, l[i]? = some a := List.mem_filterMap.mp h
theorem pick_nd {L : List (Addr × HO)} (nd : (L.map (·.1)).Nodup) : ∀ {ix : List Nat}, ix.Nodup → ((pick ix L).map (·.1)).Nodup
  | [], _ => List.nodup_nil
  | i :: ix, h => by
    have h' := List.nodup_cons.mp h
    have t := pick_nd nd h'.2
    unfold pick at t ⊢
    rw [List.filterMap_cons]
    cases e : L[i]? with
    | none => exact t
    | some c =>
      refine List.nodup_cons.mpr ⟨fun z => ?_, t⟩
      obtain ⟨d, hd, e2⟩ := List.mem_map.mp z
      obtain ⟨j, hj, e3⟩ := mem_pick hd
      have z1 : (L.map (·.1))[j]? = some c.1 := by rw [List.getElem?_map, e3]; simp [e2]
      have z2 : (L.map (·.1))[i]? = some c.1 := by rw [List.getElem?_map, e]; rfl
      exact h'.1 (nd_ix nd z2 z1 ▸ hj)
theorem Wd.pick (ix : List Nat) (w : Wd p S0 H0 S H L) (h : ix.Nodup) : Wd p S0 H0 S H (Wk.pick ix L) := by
  have z := List.nodup_append.mp w.n
  have sub : ∀ c ∈ Wk.pick ix L, c ∈ L := fun c hc => by
    obtain ⟨i, _, e⟩ := mem_pick hc
    exact List.mem_of_getElem? e
  refine ⟨w.g, fun c hc => w.o c (sub c hc), List.nodup_append.mpr ⟨z.1, pick_nd z.2.1 h, fun a ha b hb => ?_⟩⟩
  obtain ⟨c, hc, e⟩ := List.mem_map.mp hb
  exact z.2.2 a ha b (List.mem_map.mpr ⟨c, sub c hc, e⟩)
theorem Wd.nmAt {i : Nat} {q : Addr} {o : HO} (w : Wd p S0 H0 S H L) (h : L[i]? = some (q, o)) : q ∉ p.M := w.nm (c := (q, o)) (List.mem_of_getElem? h)

/-! ### lists that are made, read -/
theorem EvL.frz {A : Rq α} {m : (α → μ β) → μ β} [Mo A] (h : EvL p te σ S H m A) : Ev p te σ S H m (rL A) := fun S1 H1 s g ps k z hm Q q =>
  h S1 H1 s g ps k z hm Q fun a x vs S2 H2 s2 g2 p2 n1 e2 n2 m2 r hm2 => by
    refine q a (.ref x) (upd S2 x (.lst vs)) H2 s2 ⟨g2.s.tr (ex_frz n2), fun b u e => ?_, g2.h, fun b u e n => ?_, g2.t⟩ (p2.frz m2) ⟨x, vs, rfl, upd_same, Mo.mo (ex_frz n2) r⟩ hm2
    · by_cases z : b = x
      · subst z; rw [upd_same] at e; cases e; exact e2
      · rw [upd_ne z] at e; exact g2.i b u e
    · rw [upd_ne (ne_of_none e n1)]; exact g2.f b u e n
theorem EvL.rd {A : Rq α} {m : (α → μ β) → μ β} (h : EvL p te σ S H m A) : EvR p te σ S H m A := fun S1 H1 s g ps k z hm Q q =>
  h S1 H1 s g ps k z hm Q fun a x vs S2 H2 s2 g2 p2 _ e2 _ m2 r hm2 => q a x vs S2 H2 s2 g2 p2 e2 m2 r hm2
theorem pot_nM {s : τ} (ps : PotAt p s S H) {x : Addr} {o : HO} (hx : S x = some o) : x ∉ p.M := fun z => by
  rw [← p.adr s] at z
  obtain ⟨c, hc, e⟩ := List.mem_map.mp z
  have := (ps c hc).2
  rw [e, hx] at this; cases this
theorem Ev.rd {A : Rq α} {m : (α → μ β) → μ β} (h : Ev p te σ S H m (rL A)) : EvR p te σ S H m A := fun S1 H1 s g ps k z hm Q q =>
  h S1 H1 s g ps k z hm Q fun a v S2 H2 s2 g2 p2 ⟨x, vs, e, h1, h2⟩ hm2 => by
    subst e
    exact q a x vs S2 H2 s2 g2 p2 (g2.i _ _ h1) (pot_nM p2 h1) h2 hm2
theorem e_own {i : Nat} {a : α} {q : Addr} {vs : List V} {A : Rq α} [Mo A] (e : σ[i]? = some (some (.ref q))) (hq : H q = some (.lst vs)) (hM : q ∉ p.M) (r : A a vs S) : EvR (μ := μ) (β := β) p (tVar i) σ S H (fun k => k a) A :=
  fun _ _ _ g ps _ _ hm _ k => ⟨.ref q, e, k _ _ _ _ _ _ (Gm.rf g.i) ps (g.h _ _ hM hq) hM (Mo.mo g.s r) hm⟩
theorem w_own {i j : Nat} {a : α} {q : Addr} {vs : List V} {A : Rq α} [Mo A] (w : Wd p S0 H0 S H L) (hj : L[j]? = some (q, .lst vs)) (e : σ[i]? = some (some (.ref q))) (r : A a vs S) : EvR (μ := μ) (β := β) p (tVar i) σ S H (fun k => k a) A :=
  e_own e (w.at hj).1 (w.nmAt hj) r

/-! ### arguments, displays -/
theorem a_nil : EvA (μ := μ) (β := β) p tNil σ S H (fun k => k ()) aNil := fun _ _ _ g ps _ _ hm _ q => q _ _ _ _ _ (Gm.rf g.i) ps rfl hm
theorem a_one {m : (α → μ β) → μ β} {R : Rp α} (h : Ev p te σ S H m R) : EvA p (tCons te tNil) σ S H m (aOne R) := fun S1 H1 s g ps k z hm Q q =>
  h S1 H1 s g ps k z hm _ fun a v S2 H2 s2 g2 p2 r hm2 => q a [v] S2 H2 s2 g2 p2 ⟨v, rfl, r⟩ hm2
theorem a_cons {tr : TA} {m : (α → μ β) → μ β} {m' : (γ → μ β) → μ β} {R : Rp α} {A : Rq γ} [Mo R] (h : Ev p te σ S H m R) (h' : EvA p tr σ S H m' A) : EvA p (tCons te tr) σ S H (fun k => m fun a => m' fun b => k (a, b)) (aCons R A) := fun S1 H1 s g ps k z hm Q q =>
  h S1 H1 s g ps _ z hm _ fun a v S2 H2 s2 g2 p2 r hm2 => h' S2 H2 s2 (g.tr g2) p2 _ z hm2 _ fun b vs S3 H3 s3 g3 p3 r3 hm3 => q (a, b) (v :: vs) S3 H3 s3 (g2.tr g3) p3 ⟨v, vs, rfl, Mo.mo g3.s r, r3⟩ hm3
theorem a_nilL {R : Rp α} : EvA (μ := μ) (β := β) p tNil σ S H (fun k => k []) (aAll R) := fun _ _ _ g ps _ _ hm _ q => q _ _ _ _ _ (Gm.rf g.i) ps .nil hm
theorem a_consL {tr : TA} {m : (α → μ β) → μ β} {m' : (List α → μ β) → μ β} {R : Rp α} [Mo R] (h : Ev p te σ S H m R) (h' : EvA p tr σ S H m' (aAll R)) : EvA p (tCons te tr) σ S H (fun k => m fun a => m' fun b => k (a :: b)) (aAll R) := fun S1 H1 s g ps k z hm Q q =>
  h S1 H1 s g ps _ z hm _ fun a v S2 H2 s2 g2 p2 r hm2 => h' S2 H2 s2 (g.tr g2) p2 _ z hm2 _ fun b vs S3 H3 s3 g3 p3 r3 hm3 => q (a :: b) (v :: vs) S3 H3 s3 (g2.tr g3) p3 (.cons (Mo.mo g3.s r) r3) hm3
/-- how many values there are -/
def ArN (n : Nat) (A : Rq α) : Prop := ∀ a vs S, A a vs S → vs.length ≤ n
theorem arN_nil : ArN 0 aNil := fun _ vs _ h => by rw [show vs = [] from h]; exact Nat.le_refl _
theorem arN_one {R : Rp α} : ArN 1 (aOne R) := fun _ vs _ ⟨v, e, _⟩ => by rw [e]; exact Nat.le_refl _
theorem arN_cons {n : Nat} {R : Rp α} {A : Rq γ} (h : ArN n A) : ArN (n + 1) (aCons R A) := fun _ vs _ ⟨v, r, e, _, h2⟩ => by
  rw [e]
  exact Nat.succ_le_succ (h _ _ _ h2)
theorem e_tup {m : (α → μ β) → μ β} {A : Rq α} {t : TA} {n : Nat} [Mo A] (h : EvA p t σ S H m A) (hn : ArN n A) (hz : n ≤ sizeLine) : Ev p (tTup t) σ S H m (rT K A) := fun S1 H1 s g ps k z hm Q q =>
  h S1 H1 s g ps k z hm _ fun a vs S2 H2 s2 g2 p2 r hm2 => ⟨Nat.le_trans (hn _ _ _ r) hz, fun x hx =>
    have g3 : Gm p.M S2 H2 (upd S2 x (.tup vs)) (upd H2 x (.tup vs)) := Gm.new g2.i hx
    q a _ _ _ s2 (g2.tr g3) (p2.go (Gm.new g2.i hx)) ⟨x, vs, rfl, .of upd_same, Mo.mo g3.s r⟩ hm2⟩
/-- a display of one kind of items -/
theorem e_tupL {m : (List α → μ β) → μ β} {R : Rp α} {t : TA} [Mo R] (h : EvA p t σ S H m (aAll R)) : Ev p (tTup t) σ S H (fun k => m fun a => Mir.lft (grd (a.length ≤ 16000000)) >>= fun _ => k a) (rT K (aAll R)) := fun S1 H1 s g ps k z hm Q q =>
  h S1 H1 s g ps _ z hm _ fun a vs S2 H2 s2 g2 p2 r hm2 => by
    obtain ⟨_, e, hm2⟩ := run_of_lft hm2
    have hl := grd_of e
    have hr : All R S2 a vs := r
    refine ⟨by rw [← hr.len, sizeLine_eq]; omega, fun x hx => ?_⟩
    have g3 : Gm p.M S2 H2 (upd S2 x (.tup vs)) (upd H2 x (.tup vs)) := Gm.new g2.i hx
    exact q a _ _ _ s2 (g2.tr g3) (p2.go (Gm.new g2.i hx)) ⟨x, vs, rfl, .of upd_same, Mo.mo (R := aAll R) g3.s r⟩ hm2
theorem new_nM {s : τ} (ps : PotAt p s S H) {x : Addr} (hx : H x = none) : x ∉ p.M := fun z => by
  rw [← p.adr s] at z
  obtain ⟨c, hc, e⟩ := List.mem_map.mp z
  have := (ps c hc).1
  rw [e, hx] at this; cases this
theorem l_lst {m : (α → μ β) → μ β} {A : Rq α} {t : TA} {n : Nat} [Mo A] (h : EvA p t σ S H m A) (hn : ArN n A) (hz : n ≤ sizeLine) : EvL p (tLst t) σ S H m A := fun S1 H1 s g ps k z hm Q q =>
  h S1 H1 s g ps k z hm _ fun a vs S2 H2 s2 g2 p2 r hm2 => ⟨Nat.le_trans (hn _ _ _ r) hz, fun x hx =>
    have g3 : Gm p.M S2 H2 S2 (upd H2 x (.lst vs)) := Gm.own g2.i hx
    have n1 : H1 x = none := by
      cases e : H1 x with
      | none => rfl
      | some u => obtain ⟨u', e'⟩ := g2.t x u e; rw [hx] at e'; cases e'
    q a x vs S2 _ s2 (g2.tr g3) (p2.go (Gm.own g2.i hx)) n1 upd_same (g2.i.no hx) (new_nM p2 hx) r hm2⟩
theorem l_lstL {m : (List α → μ β) → μ β} {R : Rp α} {t : TA} [Mo R] (h : EvA p t σ S H m (aAll R)) : EvL p (tLst t) σ S H (fun k => m fun a => Mir.lft (grd (a.length ≤ 16000000)) >>= fun _ => k a) (aAll R) := fun S1 H1 s g ps k z hm Q q =>
  h S1 H1 s g ps _ z hm _ fun a vs S2 H2 s2 g2 p2 r hm2 => by
    obtain ⟨_, e, hm2⟩ := run_of_lft hm2
    have hl := grd_of e
    have hr : All R S2 a vs := r
    refine ⟨by rw [← hr.len, sizeLine_eq]; omega, fun x hx => ?_⟩
    have g3 : Gm p.M S2 H2 S2 (upd H2 x (.lst vs)) := Gm.own g2.i hx
    have n1 : H1 x = none := by
      cases e : H1 x with
      | none => rfl
      | some u => obtain ⟨u', e'⟩ := g2.t x u e; rw [hx] at e'; cases e'
    exact q a x vs S2 _ s2 (g2.tr g3) (p2.go (Gm.own g2.i hx)) n1 upd_same (g2.i.no hx) (new_nM p2 hx) r hm2

/-! ### tests, choices -/
theorem t_B {m : (Bool → μ β) → μ β} (h : Ev p te σ S H m rB) : EvT p (tB te) σ S H m := fun S1 H1 s g ps k z hm Q q =>
  h S1 H1 s g ps k z hm _ fun b v S2 H2 s2 g2 p2 r hm2 => ⟨b, r, q b S2 H2 s2 g2 p2 hm2⟩
theorem t_Test {m : (Bool → μ β) → μ β} (h : Ev p te σ S H m rB) : EvT p (tTest te) σ S H m := fun S1 H1 s g ps k z hm Q q =>
  h S1 H1 s g ps k z hm _ fun b v S2 H2 s2 g2 p2 r hm2 => ⟨b, r, q b S2 H2 s2 g2 p2 hm2⟩
theorem EvT.go {m : (Bool → μ β) → μ β} {S1 H1 : Hp} (h : EvT p tt σ S H m) (g : Gm p.M S H S1 H1) : EvT p tt σ S1 H1 m := fun S2 H2 s g2 ps => h S2 H2 s (g.tr g2) ps
theorem t_and {tu : TT} {m : (Bool → μ β) → μ β} {m' : (Bool → μ Bool) → μ Bool} (h : EvT p tt σ S H m) (h' : EvT p tu σ S H m') : EvT p (tAnd tt tu) σ S H (fun k => m fun a => (if a = true then m' pure else pure false) >>= k) := fun S1 H1 s g ps k z hm Q q =>
  h S1 H1 s g ps _ z hm _ fun b S2 H2 s2 g2 p2 hm2 => by
    obtain ⟨c, s3, e1, e2⟩ := run_of_bind hm2
    cases b with
    | true => exact iteT (h' S2 H2 s2 (g.tr g2) p2 pure (c, s3) (by simpa using e1) Q fun d S3 H3 s4 g3 p3 hm3 => by cases run_of_pure hm3; exact q _ S3 H3 _ (g2.tr g3) p3 e2)
    | false => exact iteF (by cases run_of_pure (show Mir.run (pure false : μ Bool) s2 = some (c, s3) by simpa using e1); exact q _ S2 H2 _ g2 p2 e2)
theorem t_or {tu : TT} {m : (Bool → μ β) → μ β} {m' : (Bool → μ Bool) → μ Bool} (h : EvT p tt σ S H m) (h' : EvT p tu σ S H m') : EvT p (tOr tt tu) σ S H (fun k => m fun a => (if a = true then pure true else m' pure) >>= k) := fun S1 H1 s g ps k z hm Q q =>
  h S1 H1 s g ps _ z hm _ fun b S2 H2 s2 g2 p2 hm2 => by
    obtain ⟨c, s3, e1, e2⟩ := run_of_bind hm2
    cases b with
    | true => exact iteT (by cases run_of_pure (show Mir.run (pure true : μ Bool) s2 = some (c, s3) by simpa using e1); exact q _ S2 H2 _ g2 p2 e2)
    | false => exact iteF (h' S2 H2 s2 (g.tr g2) p2 pure (c, s3) (by simpa using e1) Q fun d S3 H3 s4 g3 p3 hm3 => by cases run_of_pure hm3; exact q _ S3 H3 _ (g2.tr g3) p3 e2)
/-- the second one is asked without a condition -/
theorem t_andT {tu : TT} {m : (Bool → μ β) → μ β} {c : Bool} (h : EvT p tt σ S H m) (h' : EvT (μ := μ) (β := β) p tu σ S H (fun k => k c)) : EvT p (tAnd tt tu) σ S H (fun k => m fun a => k (a && c)) := fun S1 H1 s g ps k z hm Q q =>
  h S1 H1 s g ps _ z hm _ fun b S2 H2 s2 g2 p2 hm2 => by
    cases b with
    | true => exact iteT (h' S2 H2 s2 (g.tr g2) p2 k z (by simpa using hm2) Q fun d S3 H3 s3 g3 p3 hm3 => q d S3 H3 s3 (g2.tr g3) p3 hm3)
    | false => exact iteF (q false S2 H2 s2 g2 p2 (by simpa using hm2))
theorem t_orT {tu : TT} {m : (Bool → μ β) → μ β} {c : Bool} (h : EvT p tt σ S H m) (h' : EvT (μ := μ) (β := β) p tu σ S H (fun k => k c)) : EvT p (tOr tt tu) σ S H (fun k => m fun a => k (a || c)) := fun S1 H1 s g ps k z hm Q q =>
  h S1 H1 s g ps _ z hm _ fun b S2 H2 s2 g2 p2 hm2 => by
    cases b with
    | true => exact iteT (q true S2 H2 s2 g2 p2 (by simpa using hm2))
    | false => exact iteF (h' S2 H2 s2 (g.tr g2) p2 k z (by simpa using hm2) Q fun d S3 H3 s3 g3 p3 hm3 => q d S3 H3 s3 (g2.tr g3) p3 hm3)
theorem t_not {m : (Bool → μ β) → μ β} (h : EvT p tt σ S H m) : EvT p (tNot tt) σ S H (fun k => m fun a => k (!a)) := fun S1 H1 s g ps k z hm Q q =>
  h S1 H1 s g ps _ z hm _ fun b S2 H2 s2 g2 p2 hm2 => q (!b) S2 H2 s2 g2 p2 hm2
theorem e_and {m : (Bool → μ β) → μ β} {m' : (Bool → μ Bool) → μ Bool} (h : Ev p ta σ S H m rB) (h' : Ev p tb σ S H m' rB) : Ev p (tAndV ta tb) σ S H (fun k => m fun a => (if a = true then m' pure else pure false) >>= k) rB := fun S1 H1 s g ps k z hm Q q =>
  h S1 H1 s g ps _ z hm _ fun b v S2 H2 s2 g2 p2 r hm2 => ⟨b, r, by
    obtain ⟨c, s3, e1, e2⟩ := run_of_bind hm2
    cases b with
    | true => exact iteT (h' S2 H2 s2 (g.tr g2) p2 pure (c, s3) (by simpa using e1) Q fun d u S3 H3 s4 g3 p3 r3 hm3 => by cases run_of_pure hm3; exact q _ u S3 H3 _ (g2.tr g3) p3 r3 e2)
    | false => exact iteF (by cases run_of_pure (show Mir.run (pure false : μ Bool) s2 = some (c, s3) by simpa using e1); exact q _ _ S2 H2 _ g2 p2 rfl e2)⟩
theorem e_or {m : (Bool → μ β) → μ β} {m' : (Bool → μ Bool) → μ Bool} (h : Ev p ta σ S H m rB) (h' : Ev p tb σ S H m' rB) : Ev p (tOrV ta tb) σ S H (fun k => m fun a => (if a = true then pure true else m' pure) >>= k) rB := fun S1 H1 s g ps k z hm Q q =>
  h S1 H1 s g ps _ z hm _ fun b v S2 H2 s2 g2 p2 r hm2 => ⟨b, r, by
    obtain ⟨c, s3, e1, e2⟩ := run_of_bind hm2
    cases b with
    | true => exact iteT (by cases run_of_pure (show Mir.run (pure true : μ Bool) s2 = some (c, s3) by simpa using e1); exact q _ _ S2 H2 _ g2 p2 rfl e2)
    | false => exact iteF (h' S2 H2 s2 (g.tr g2) p2 pure (c, s3) (by simpa using e1) Q fun d u S3 H3 s4 g3 p3 r3 hm3 => by cases run_of_pure hm3; exact q _ u S3 H3 _ (g2.tr g3) p3 r3 e2)⟩
theorem e_andT {m : (Bool → μ β) → μ β} {c : Bool} (h : Ev p ta σ S H m rB) (h' : Ev (μ := μ) (β := β) p tb σ S H (fun k => k c) rB) : Ev p (tAndV ta tb) σ S H (fun k => m fun a => k (a && c)) rB := fun S1 H1 s g ps k z hm Q q =>
  h S1 H1 s g ps _ z hm _ fun b v S2 H2 s2 g2 p2 r hm2 => ⟨b, r, by
    cases b with
    | true => exact iteT (h' S2 H2 s2 (g.tr g2) p2 k z (by simpa using hm2) Q fun d u S3 H3 s3 g3 p3 r3 hm3 => q d u S3 H3 s3 (g2.tr g3) p3 r3 hm3)
    | false => exact iteF (q false _ S2 H2 s2 g2 p2 rfl (by simpa using hm2))⟩
theorem e_orT {m : (Bool → μ β) → μ β} {c : Bool} (h : Ev p ta σ S H m rB) (h' : Ev (μ := μ) (β := β) p tb σ S H (fun k => k c) rB) : Ev p (tOrV ta tb) σ S H (fun k => m fun a => k (a || c)) rB := fun S1 H1 s g ps k z hm Q q =>
  h S1 H1 s g ps _ z hm _ fun b v S2 H2 s2 g2 p2 r hm2 => ⟨b, r, by
    cases b with
    | true => exact iteT (q true _ S2 H2 s2 g2 p2 rfl (by simpa using hm2))
    | false => exact iteF (h' S2 H2 s2 (g.tr g2) p2 k z (by simpa using hm2) Q fun d u S3 H3 s3 g3 p3 r3 hm3 => q d u S3 H3 s3 (g2.tr g3) p3 r3 hm3)⟩
theorem e_not {m : (Bool → μ β) → μ β} (h : Ev p ta σ S H m rB) : Ev p (tNotV ta) σ S H (fun k => m fun a => k (!a)) rB := fun S1 H1 s g ps k z hm Q q =>
  h S1 H1 s g ps _ z hm _ fun b v S2 H2 s2 g2 p2 r hm2 => ⟨b, r, q _ _ S2 H2 s2 g2 p2 rfl hm2⟩
/-- a if t else b: the ways meet again -/
theorem e_if {mt : (Bool → μ β) → μ β} {ma mb : (α → μ α) → μ α} {R : Rp α} (h : EvT p tt σ S H mt) (h1 : Ev p ta σ S H ma R) (h2 : Ev p tb σ S H mb R) :
    Ev p (tIf tt ta tb) σ S H (fun k => mt fun b => (if b = true then ma pure else mb pure) >>= k) R := fun S1 H1 s g ps k z hm Q q =>
  h S1 H1 s g ps _ z hm _ fun b S2 H2 s2 g2 p2 hm2 => by
    obtain ⟨a, s3, e1, e2⟩ := run_of_bind hm2
    cases b with
    | true => exact iteT (h1 S2 H2 s2 (g.tr g2) p2 pure (a, s3) (by simpa using e1) Q fun c u S3 H3 s4 g3 p3 r3 hm3 => by cases run_of_pure hm3; exact q _ u S3 H3 _ (g2.tr g3) p3 r3 e2)
    | false => exact iteF (h2 S2 H2 s2 (g.tr g2) p2 pure (a, s3) (by simpa using e1) Q fun c u S3 H3 s4 g3 p3 r3 hm3 => by cases run_of_pure hm3; exact q _ u S3 H3 _ (g2.tr g3) p3 r3 e2)
/-- both ways are asked without a condition -/
theorem e_ifT {mt : (Bool → μ β) → μ β} {x y : α} {R : Rp α} (h : EvT p tt σ S H mt) (h1 : Ev (μ := μ) (β := β) p ta σ S H (fun k => k x) R) (h2 : Ev (μ := μ) (β := β) p tb σ S H (fun k => k y) R) :
    Ev p (tIf tt ta tb) σ S H (fun k => mt fun b => k (if b = true then x else y)) R := fun S1 H1 s g ps k z hm Q q =>
  h S1 H1 s g ps _ z hm _ fun b S2 H2 s2 g2 p2 hm2 => by
    cases b with
    | true => exact iteT (h1 S2 H2 s2 (g.tr g2) p2 k z (by simpa using hm2) Q fun c u S3 H3 s4 g3 p3 r3 hm3 => q _ u S3 H3 _ (g2.tr g3) p3 r3 hm3)
    | false => exact iteF (h2 S2 H2 s2 (g.tr g2) p2 k z (by simpa using hm2) Q fun c u S3 H3 s4 g3 p3 r3 hm3 => q _ u S3 H3 _ (g2.tr g3) p3 r3 hm3)
theorem l_if {mt : (Bool → μ β) → μ β} {ma mb : (α → μ α) → μ α} {A : Rq α} (h : EvT p tt σ S H mt) (h1 : EvL p ta σ S H ma A) (h2 : EvL p tb σ S H mb A) :
    EvL p (tIf tt ta tb) σ S H (fun k => mt fun b => (if b = true then ma pure else mb pure) >>= k) A := fun S1 H1 s g ps k z hm Q q =>
  h S1 H1 s g ps _ z hm _ fun b S2 H2 s2 g2 p2 hm2 => by
    obtain ⟨a, s3, e1, e2⟩ := run_of_bind hm2
    have back : ∀ {x : Addr}, H2 x = none → H1 x = none := fun {x} hx => by
      cases e : H1 x with
      | none => rfl
      | some u => obtain ⟨u', e'⟩ := g2.t x u e; rw [hx] at e'; cases e'
    cases b with
    | true => exact iteT (h1 S2 H2 s2 (g.tr g2) p2 pure (a, s3) (by simpa using e1) Q fun c x vs S3 H3 s4 g3 p3 n1 e3 n3 m3 r3 hm3 => by cases run_of_pure hm3; exact q _ x vs S3 H3 _ (g2.tr g3) p3 (back n1) e3 n3 m3 r3 e2)
    | false => exact iteF (h2 S2 H2 s2 (g.tr g2) p2 pure (a, s3) (by simpa using e1) Q fun c x vs S3 H3 s4 g3 p3 n1 e3 n3 m3 r3 hm3 => by cases run_of_pure hm3; exact q _ x vs S3 H3 _ (g2.tr g3) p3 (back n1) e3 n3 m3 r3 e2)
end
end Wk
set_option Elab.async false
set_option maxRecDepth 100000
set_option maxHeartbeats 4000000
set_option linter.all false
/-! W2: targets, statements, loops, comprehensions -/
namespace Wk
open PySem L2
open PyProof.Rows hiding St
section
variable {μ : Type → Type} {τ : Type} [Mir μ τ] {α β γ δ ζ : Type} {p : Pt τ} {σ : St} {S H S0 H0 : Hp} {te ta tb : TE} {tt : TT} {L : List (Addr × HO)} {K : PySem.W.Frag} {tz tu tw : TS} {D : Ends} {s : τ} {z : β × τ}

/-! ### targets: what an item is, how the slots then stand -/
def Tg (g : TG) (R : Rp α) (P : α → St → St → Hp → Prop) : Prop := ∀ a v σ S H (Q : St → Hp → Prop), Ex S H → R a v S → (∀ σ', P a σ σ' S → Q σ' H) → g v σ H Q
def pN (j : Nat) (R : Rp α) : α → St → St → Hp → Prop := fun a σ σ' S => ∃ v, σ' = σ.set j (some v) ∧ R a v S
theorem g_nm {j : Nat} {R : Rp α} : Tg (gName j) R (pN j R) := fun _ v _ _ _ _ _ r q => q _ ⟨v, rfl, r⟩
/-- the items of a tuple, one after another -/
def TgQ (n : Nat) (g : TGs) (A : Rq α) (P : α → St → St → Hp → Prop) : Prop := ∀ a vs σ S H (Q : St → Hp → Prop), Ex S H → A a vs S → vs.length = n ∧ ((∀ σ', P a σ σ' S → Q σ' H) → g vs σ H Q)
theorem gq_one {g : TG} {R : Rp α} {P : α → St → St → Hp → Prop} (h : Tg g R P) : TgQ 1 (gCons g gNil) (aOne R) P := fun a vs σ S H Q e ⟨v, e1, r⟩ => by
  subst e1
  exact ⟨rfl, fun q => ⟨v, [], rfl, h a v σ S H _ e r fun σ' p' => ⟨rfl, q σ' p'⟩⟩⟩
theorem gq_cons {n : Nat} {g : TG} {gs : TGs} {R : Rp α} {A : Rq γ} {P : α → St → St → Hp → Prop} {P' : γ → St → St → Hp → Prop} (h : Tg g R P) (h' : TgQ n gs A P') :
    TgQ (n + 1) (gCons g gs) (aCons R A) (fun x σ σ2 S => ∃ σ1, P x.1 σ σ1 S ∧ P' x.2 σ1 σ2 S) := fun a vs σ S H Q e ⟨v, r, e1, h1, h2⟩ => by
  subst e1
  refine ⟨congrArg Nat.succ (h' a.2 r σ S H Q e h2).1, fun q => ⟨v, r, rfl, h a.1 v σ S H _ e h1 fun σ1 p1 => (h' a.2 r σ1 S H Q e h2).2 fun σ2 p2 => q σ2 ⟨σ1, p1, p2⟩⟩⟩
theorem g_tp {n : Nat} {gs : TGs} {A : Rq α} {P : α → St → St → Hp → Prop} (h : TgQ n gs A P) : Tg (gTup K n gs) (rT K A) P := fun a v σ S H Q e ⟨x, vs, e1, h1, h2⟩ q => by
  subst e1
  exact ⟨x, vs, rfl, sqT_ex e h1, (h a vs σ S H Q e h2).1, (h a vs σ S H Q e h2).2 q⟩

/-- what the slots are told stays told -/
def PMo (P : α → St → St → Hp → Prop) : Prop := ∀ x σ σ' S1 S2, Ex S1 S2 → P x σ σ' S1 → P x σ σ' S2
theorem pm_nm {j : Nat} {R : Rp α} [Mo R] : PMo (pN j R) := fun _ _ _ _ _ e ⟨v, h, r⟩ => ⟨v, h, Mo.mo e r⟩
theorem pm_cons {P : α → St → St → Hp → Prop} {P' : γ → St → St → Hp → Prop} (h : PMo P) (h' : PMo P') : PMo (fun (x : α × γ) σ σ2 S => ∃ σ1, P x.1 σ σ1 S ∧ P' x.2 σ1 σ2 S) :=
  fun _ _ _ _ _ e ⟨σ1, a, b⟩ => ⟨σ1, h _ _ _ _ _ e a, h' _ _ _ _ _ e b⟩

/-! ### statements -/
theorem nx_done (h : tz D σ H) : tNext { D with nx := tz D } σ H := h
theorem q_set {i : Nat} {m : (α → μ β) → μ β} {R : Rp α} {k : α → μ β} (σ' : V → St) (hσ : ∀ v, σ.set i (some v) = σ' v) (w : Wd p S0 H0 S H L) (ps : PotAt p s S H) (h : Ev p te σ S H m R) (hm : Mir.run (m fun a => bnd a k) s = some z)
    (nx : ∀ a v S1 H1 s1, Wd p S0 H0 S1 H1 L → PotAt p s1 S1 H1 → Gm p.M S H S1 H1 → R a v S1 → Mir.run (k a) s1 = some z → tz D (σ' v) H1) : tSeq (tAsg te (gName i)) tz D σ H :=
  h S H s (Gm.rf w.i) ps _ z hm _ fun a v S1 H1 s1 g p1 r hm1 => by
    have q := nx a v S1 H1 s1 (w.go g) p1 g r hm1
    rw [← hσ v] at q
    exact q
theorem q_setL {i : Nat} {m : (α → μ β) → μ β} {A : Rq α} {k : α → μ β} (σ' : V → St) (hσ : ∀ v, σ.set i (some v) = σ' v) (w : Wd p S0 H0 S H L) (ps : PotAt p s S H) (h : EvL p te σ S H m A) (hm : Mir.run (m fun a => bnd a k) s = some z)
    (nx : ∀ a q vs S1 H1 s1, Wd p S0 H0 S1 H1 ((q, .lst vs) :: L) → PotAt p s1 S1 H1 → Gm p.M S H S1 H1 → A a vs S1 → Mir.run (k a) s1 = some z → tz D (σ' (.ref q)) H1) : tSeq (tAsg te (gName i)) tz D σ H :=
  h S H s (Gm.rf w.i) ps _ z hm _ fun a q vs S1 H1 s1 g p1 n e sn m r hm1 => by
    have q := nx a q vs S1 H1 s1 (w.add g n e sn m) p1 g r hm1
    rw [← hσ] at q
    exact q
/-- some expression is asked, what is wanted of it goes on -/
theorem x_ev {m : (α → μ β) → μ β} {R : Rp α} {k : α → μ β} {Q : VK} (w : Wd p S0 H0 S H L) (ps : PotAt p s S H) (h : Ev p te σ S H m R) (hm : Mir.run (m fun a => bnd a k) s = some z)
    (nx : ∀ a v S1 H1 s1, Wd p S0 H0 S1 H1 L → PotAt p s1 S1 H1 → Gm p.M S H S1 H1 → R a v S1 → Mir.run (k a) s1 = some z → Q v H1) : te σ H Q :=
  h S H s (Gm.rf w.i) ps _ z hm _ fun a v S1 H1 s1 g p1 r hm1 => nx a v S1 H1 s1 (w.go g) p1 g r hm1
theorem x_evL {m : (α → μ β) → μ β} {A : Rq α} {k : α → μ β} {Q : VK} (w : Wd p S0 H0 S H L) (ps : PotAt p s S H) (h : EvL p te σ S H m A) (hm : Mir.run (m fun a => bnd a k) s = some z)
    (nx : ∀ a q vs S1 H1 s1, Wd p S0 H0 S1 H1 ((q, .lst vs) :: L) → PotAt p s1 S1 H1 → Gm p.M S H S1 H1 → A a vs S1 → Mir.run (k a) s1 = some z → Q (.ref q) H1) : te σ H Q :=
  h S H s (Gm.rf w.i) ps _ z hm _ fun a q vs S1 H1 s1 g p1 n e sn m r hm1 => nx a q vs S1 H1 s1 (w.add g n e sn m) p1 g r hm1
theorem par_go {i j : Nat} {t1 t2 : TE} (h : t1 σ H fun x H1 => t2 σ H1 fun y H2 => ∃ v w, [x, y] = [v, w] ∧ tz D ((σ.set i (some v)).set j (some w)) H2) : tSeq (tPar i j (tCons t1 (tCons t2 tNil))) tz D σ H := h
theorem par_end {i j : Nat} {x y : V} (σ' : St) (hσ : (σ.set i (some x)).set j (some y) = σ') (h : tz D σ' H) : ∃ v w, [x, y] = [v, w] ∧ tz D ((σ.set i (some v)).set j (some w)) H := ⟨x, y, rfl, by rw [hσ]; exact h⟩
theorem par3_go {i j l : Nat} {t1 t2 t3 : TE} (h : t1 σ H fun x H1 => t2 σ H1 fun y H2 => t3 σ H2 fun w H3 => ∃ a b c, [x, y, w] = [a, b, c] ∧ tz D (((σ.set i (some a)).set j (some b)).set l (some c)) H3) : tSeq (tPar3 i j l (tCons t1 (tCons t2 (tCons t3 tNil)))) tz D σ H := h
theorem par3_end {i j l : Nat} {x y w : V} (σ' : St) (hσ : ((σ.set i (some x)).set j (some y)).set l (some w) = σ') (h : tz D σ' H) : ∃ a b c, [x, y, w] = [a, b, c] ∧ tz D (((σ.set i (some a)).set j (some b)).set l (some c)) H := ⟨x, y, w, rfl, by rw [hσ]; exact h⟩
/-- a, b, .. = x, y, ..: the tuple is made -/
def gSeq : List Nat → TGs
  | [] => gNil
  | i :: is => gCons (gName i) (gSeq is)
def setAll : St → List Nat → List V → St
  | σ, i :: is, v :: vs => setAll (σ.set i (some v)) is vs
  | σ, _, _ => σ
theorem gSeq_go {Q : St → Hp → Prop} : ∀ (is : List Nat) (vs : List V) (σ : St) (H : Hp), is.length = vs.length → Q (setAll σ is vs) H → gSeq is vs σ H Q
  | [], [], σ, H, _, h => ⟨rfl, h⟩
  | i :: is, v :: vs, σ, H, e, h => ⟨v, vs, rfl, gSeq_go is vs (σ.set i (some v)) H (by simpa using e) h⟩
  | [], _ :: _, _, _, e, _ => by simp at e
  | _ :: _, [], _, _, e, _ => by simp at e
theorem tup_end {is : List Nat} {vs : List V} {Q : St → Hp → Prop} (σ' : St) (w : Wd p S0 H0 S H L) (ps : PotAt p s S H) (hl : is.length = vs.length) (hz : vs.length ≤ 1000) (hσ : setAll σ is vs = σ')
    (nx : ∀ S1 H1, Wd p S0 H0 S1 H1 L → PotAt p s S1 H1 → Gm p.M S H S1 H1 → Q σ' H1) :
    vs.length ≤ sizeLine ∧ ∀ x, H x = none → gTup K is.length (gSeq is) (.ref x) σ (upd H x (.tup vs)) Q :=
  ⟨Nat.le_trans hz (by decide), fun x hx => ⟨x, vs, rfl, .of upd_same, hl.symm, gSeq_go is vs σ _ hl (by
    rw [hσ]
    exact nx (upd S x (.tup vs)) _ (w.go (Gm.new w.i hx)) (ps.go (Gm.new w.i hx)) (Gm.new w.i hx))⟩⟩
/-- a, b = e -/
theorem q_unp {g : TG} {m : (α → μ β) → μ β} {R : Rp α} {P : α → St → St → Hp → Prop} {k : α → μ β} (w : Wd p S0 H0 S H L) (ps : PotAt p s S H) (h : Ev p te σ S H m R) (hg : Tg g R P) (hm : Mir.run (m fun a => bnd a k) s = some z)
    (nx : ∀ a σ' S1 H1 s1, Wd p S0 H0 S1 H1 L → PotAt p s1 S1 H1 → Gm p.M S H S1 H1 → P a σ σ' S1 → Mir.run (k a) s1 = some z → tz D σ' H1) : tSeq (tAsg te g) tz D σ H :=
  h S H s (Gm.rf w.i) ps _ z hm _ fun a v S1 H1 s1 g1 p1 r hm1 => hg a v σ S1 H1 _ g1.i r fun σ' hp => nx a σ' S1 H1 s1 (w.go g1) p1 g1 hp hm1
/-- a, b = x, y of two plain local names -/
theorem q_par {i j : Nat} {ta : TA} {m : (α × γ → μ β) → μ β} {R : Rp α} {R' : Rp γ} {k : α → γ → μ β} (w : Wd p S0 H0 S H L) (ps : PotAt p s S H) (h : EvA p ta σ S H m (aCons R (aOne R'))) (hm : Mir.run (m fun a => bnd a.1 fun x => bnd a.2 fun y => k x y) s = some z)
    (nx : ∀ a b v u S1 H1 s1, Wd p S0 H0 S1 H1 L → PotAt p s1 S1 H1 → Gm p.M S H S1 H1 → R a v S1 → R' b u S1 → Mir.run (k a b) s1 = some z → tz D ((σ.set i (some v)).set j (some u)) H1) : tSeq (tPar i j ta) tz D σ H :=
  h S H s (Gm.rf w.i) ps _ z hm _ fun a vs S1 H1 s1 g p1 r hm1 => by
    obtain ⟨v, r, e1, r1, u, e2, r2⟩ := r
    subst e2
    subst e1
    exact ⟨v, u, rfl, nx a.1 a.2 v u S1 H1 s1 (w.go g) p1 g r1 r2 hm1⟩
theorem q_drop {m : (α → μ β) → μ β} {R : Rp α} {k : μ β} (w : Wd p S0 H0 S H L) (ps : PotAt p s S H) (h : Ev p te σ S H m R) (hm : Mir.run (m fun _ => k) s = some z)
    (nx : ∀ S1 H1 s1, Wd p S0 H0 S1 H1 L → PotAt p s1 S1 H1 → Gm p.M S H S1 H1 → Mir.run k s1 = some z → tz D σ H1) : tSeq (tDrop te) tz D σ H :=
  h S H s (Gm.rf w.i) ps _ z hm _ fun a v S1 H1 s1 g p1 r hm1 => nx S1 H1 s1 (w.go g) p1 g hm1
theorem q_ret {m : (α → μ β) → μ β} {R : Rp α} {k : α → μ β} (w : Wd p S0 H0 S H L) (ps : PotAt p s S H) (h : Ev p te σ S H m R) (hm : Mir.run (m fun a => bnd a k) s = some z)
    (nx : ∀ a v S1 H1 s1, Wd p S0 H0 S1 H1 L → PotAt p s1 S1 H1 → Gm p.M S H S1 H1 → R a v S1 → Mir.run (k a) s1 = some z → D.rt v H1) : tSeq (tRet te) tz D σ H :=
  h S H s (Gm.rf w.i) ps _ z hm _ fun a v S1 H1 s1 g p1 r hm1 => nx a v S1 H1 s1 (w.go g) p1 g r hm1
/-- a new list is handed back -/
theorem q_retL {m : (α → μ β) → μ β} {A : Rq α} {k : α → μ β} (w : Wd p S0 H0 S H L) (ps : PotAt p s S H) (h : EvL p te σ S H m A) (hm : Mir.run (m fun a => bnd a k) s = some z)
    (nx : ∀ a q vs S1 H1 s1, Wd p S0 H0 S1 H1 ((q, .lst vs) :: L) → PotAt p s1 S1 H1 → Gm p.M S H S1 H1 → A a vs S1 → Mir.run (k a) s1 = some z → D.rt (.ref q) H1) : tSeq (tRet te) tz D σ H :=
  h S H s (Gm.rf w.i) ps _ z hm _ fun a q vs S1 H1 s1 g p1 n e sn m r hm1 => nx a q vs S1 H1 s1 (w.add g n e sn m) p1 g r hm1
theorem q_retO {i : Nat} {q : Addr} {a : α} {k : α → μ β} (e : σ[i]? = some (some (.ref q))) (hm : Mir.run (bnd a k) s = some z)
    (nx : Mir.run (k a) s = some z → D.rt (.ref q) H) : tSeq (tRet (tVar i)) tz D σ H := ⟨.ref q, e, nx hm⟩
theorem q_retN (h : D.rt .non H) : tSeq tRetN tz D σ H := h
/-- if: each way goes on by itself -/
theorem q_if {m : (Bool → μ β) → μ β} {A B : μ β} (w : Wd p S0 H0 S H L) (ps : PotAt p s S H) (h : EvT p tt σ S H m) (hm : Mir.run (m fun b => if b = true then A else B) s = some z)
    (h1 : ∀ S1 H1 s1, Wd p S0 H0 S1 H1 L → PotAt p s1 S1 H1 → Gm p.M S H S1 H1 → Mir.run A s1 = some z → tu { D with nx := tz D } σ H1)
    (h2 : ∀ S1 H1 s1, Wd p S0 H0 S1 H1 L → PotAt p s1 S1 H1 → Gm p.M S H S1 H1 → Mir.run B s1 = some z → tw { D with nx := tz D } σ H1) : tSeq (tIfS tt tu tw) tz D σ H :=
  h S H s (Gm.rf w.i) ps _ z hm _ fun b S1 H1 s1 g p1 hm1 => by
    cases b with
    | true => exact iteT (h1 S1 H1 s1 (w.go g) p1 g (by simpa using hm1))
    | false => exact iteF (h2 S1 H1 s1 (w.go g) p1 g (by simpa using hm1))
/-- if: the ways meet again with what they changed -/
theorem q_ifj {m : (Bool → μ β) → μ β} {A B : μ ζ} {k : ζ → μ β} (Iv : ζ → St → Hp → Hp → τ → Prop) (w : Wd p S0 H0 S H L) (ps : PotAt p s S H) (h : EvT p tt σ S H m) (hm : Mir.run (m fun b => (if b = true then A else B) >>= k) s = some z)
    (h1 : ∀ S1 H1 s1 st s2 (D' : Ends), Wd p S0 H0 S1 H1 L → PotAt p s1 S1 H1 → Gm p.M S H S1 H1 → Mir.run A s1 = some (st, s2) → (∀ σ' S' H', Iv st σ' S' H' s2 → D'.nx σ' H') → tu D' σ H1)
    (h2 : ∀ S1 H1 s1 st s2 (D' : Ends), Wd p S0 H0 S1 H1 L → PotAt p s1 S1 H1 → Gm p.M S H S1 H1 → Mir.run B s1 = some (st, s2) → (∀ σ' S' H', Iv st σ' S' H' s2 → D'.nx σ' H') → tw D' σ H1)
    (nx : ∀ st σ' S1 H1 s1, Iv st σ' S1 H1 s1 → Mir.run (k st) s1 = some z → tz D σ' H1) : tSeq (tIfS tt tu tw) tz D σ H :=
  h S H s (Gm.rf w.i) ps _ z hm _ fun b S1 H1 s1 g p1 hm1 => by
    obtain ⟨st, s2, e1, e2⟩ := run_of_bind hm1
    cases b with
    | true => exact iteT (h1 S1 H1 s1 st s2 _ (w.go g) p1 g (by simpa using e1) fun σ' S' H' iv => nx st σ' S' H' s2 iv e2)
    | false => exact iteF (h2 S1 H1 s1 st s2 _ (w.go g) p1 g (by simpa using e1) fun σ' S' H' iv => nx st σ' S' H' s2 iv e2)

theorem tup2_go {t1 t2 : TE} {g : TG} (h : t1 σ H fun x1 H1 => t2 σ H1 fun x2 H2 => [x1, x2].length ≤ sizeLine ∧ ∀ y, H2 y = none → g (.ref y) σ (upd H2 y (.tup [x1, x2])) (tz D)) : tSeq (tAsg (tTup (tCons t1 (tCons t2 tNil))) g) tz D σ H := h
theorem tup3_go {t1 t2 t3 : TE} {g : TG} (h : t1 σ H fun x1 H1 => t2 σ H1 fun x2 H2 => t3 σ H2 fun x3 H3 => [x1, x2, x3].length ≤ sizeLine ∧ ∀ y, H3 y = none → g (.ref y) σ (upd H3 y (.tup [x1, x2, x3])) (tz D)) : tSeq (tAsg (tTup (tCons t1 (tCons t2 (tCons t3 tNil)))) g) tz D σ H := h
theorem tup4_go {t1 t2 t3 t4 : TE} {g : TG} (h : t1 σ H fun x1 H1 => t2 σ H1 fun x2 H2 => t3 σ H2 fun x3 H3 => t4 σ H3 fun x4 H4 => [x1, x2, x3, x4].length ≤ sizeLine ∧ ∀ y, H4 y = none → g (.ref y) σ (upd H4 y (.tup [x1, x2, x3, x4])) (tz D)) : tSeq (tAsg (tTup (tCons t1 (tCons t2 (tCons t3 (tCons t4 tNil))))) g) tz D σ H := h
theorem tup5_go {t1 t2 t3 t4 t5 : TE} {g : TG} (h : t1 σ H fun x1 H1 => t2 σ H1 fun x2 H2 => t3 σ H2 fun x3 H3 => t4 σ H3 fun x4 H4 => t5 σ H4 fun x5 H5 => [x1, x2, x3, x4, x5].length ≤ sizeLine ∧ ∀ y, H5 y = none → g (.ref y) σ (upd H5 y (.tup [x1, x2, x3, x4, x5])) (tz D)) : tSeq (tAsg (tTup (tCons t1 (tCons t2 (tCons t3 (tCons t4 (tCons t5 tNil)))))) g) tz D σ H := h
theorem tup6_go {t1 t2 t3 t4 t5 t6 : TE} {g : TG} (h : t1 σ H fun x1 H1 => t2 σ H1 fun x2 H2 => t3 σ H2 fun x3 H3 => t4 σ H3 fun x4 H4 => t5 σ H4 fun x5 H5 => t6 σ H5 fun x6 H6 => [x1, x2, x3, x4, x5, x6].length ≤ sizeLine ∧ ∀ y, H6 y = none → g (.ref y) σ (upd H6 y (.tup [x1, x2, x3, x4, x5, x6])) (tz D)) : tSeq (tAsg (tTup (tCons t1 (tCons t2 (tCons t3 (tCons t4 (tCons t5 (tCons t6 tNil))))))) g) tz D σ H := h
theorem tup7_go {t1 t2 t3 t4 t5 t6 t7 : TE} {g : TG} (h : t1 σ H fun x1 H1 => t2 σ H1 fun x2 H2 => t3 σ H2 fun x3 H3 => t4 σ H3 fun x4 H4 => t5 σ H4 fun x5 H5 => t6 σ H5 fun x6 H6 => t7 σ H6 fun x7 H7 => [x1, x2, x3, x4, x5, x6, x7].length ≤ sizeLine ∧ ∀ y, H7 y = none → g (.ref y) σ (upd H7 y (.tup [x1, x2, x3, x4, x5, x6, x7])) (tz D)) : tSeq (tAsg (tTup (tCons t1 (tCons t2 (tCons t3 (tCons t4 (tCons t5 (tCons t6 (tCons t7 tNil)))))))) g) tz D σ H := h
theorem tup8_go {t1 t2 t3 t4 t5 t6 t7 t8 : TE} {g : TG} (h : t1 σ H fun x1 H1 => t2 σ H1 fun x2 H2 => t3 σ H2 fun x3 H3 => t4 σ H3 fun x4 H4 => t5 σ H4 fun x5 H5 => t6 σ H5 fun x6 H6 => t7 σ H6 fun x7 H7 => t8 σ H7 fun x8 H8 => [x1, x2, x3, x4, x5, x6, x7, x8].length ≤ sizeLine ∧ ∀ y, H8 y = none → g (.ref y) σ (upd H8 y (.tup [x1, x2, x3, x4, x5, x6, x7, x8])) (tz D)) : tSeq (tAsg (tTup (tCons t1 (tCons t2 (tCons t3 (tCons t4 (tCons t5 (tCons t6 (tCons t7 (tCons t8 tNil))))))))) g) tz D σ H := h

/-! ### lists of one's own are changed -/
theorem ty_own {x : Addr} {vs : List V} (h : H x = some (.lst vs)) : tyV K "list" (.ref x) H := .inl ⟨rfl, _, .of h⟩
theorem q_app {i j : Nat} {q : Addr} {vs : List V} {xs : List α} {m : (α → μ β) → μ β} {R : Rp α} [Mo R] {k : List α → μ β} (w : Wd p S0 H0 S H L) (ps : PotAt p s S H) (hj : L[j]? = some (q, .lst vs)) (e : σ[i]? = some (some (.ref q))) (ha : All R S xs vs) (h : Ev p te σ S H m R)
    (hm : Mir.run (m fun a => Mir.lft (grd (xs.length < 16000000)) >>= fun _ => bnd (xs ++ [a]) k) s = some z)
    (nx : ∀ ys us S1 H1 s1, Wd p S0 H0 S1 H1 (L.set j (q, .lst us)) → PotAt p s1 S1 H1 → Ex S S1 → All R S1 ys us → Mir.run (k ys) s1 = some z → tz D σ H1) : tSeq (tDrop (tBM K "list" rAppend (tVar i) (tCons te tNil))) tz D σ H :=
  ⟨.ref q, e, ty_own (w.at hj).1, h S H s (Gm.rf w.i) ps _ z hm _ fun a v S1 H1 s1 g p1 r hm1 => by
    obtain ⟨_, e1, hm1⟩ := run_of_lft hm1
    have hl := grd_of e1
    have w1 := w.go g
    refine ⟨q, vs, v, rfl, rfl, (w1.at hj).1, by rw [← ha.len, sizeLine_eq]; omega, ?_⟩
    exact nx (xs ++ [a]) (vs ++ [v]) S1 _ s1 (w1.put hj) (p1.put (w.nmAt hj)) g.s ((ha.mo g.s).app (.cons r .nil)) hm1⟩
theorem q_ext {i j : Nat} {q : Addr} {vs : List V} {xs : List α} {m : (List α → μ β) → μ β} {R : Rp α} [Mo R] {k : List α → μ β} (w : Wd p S0 H0 S H L) (ps : PotAt p s S H) (hj : L[j]? = some (q, .lst vs)) (e : σ[i]? = some (some (.ref q))) (ha : All R S xs vs) (h : EvL p te σ S H m (aAll R))
    (hm : Mir.run (m fun a => Mir.lft (grd (xs.length + a.length ≤ 16000000)) >>= fun _ => bnd (xs ++ a) k) s = some z)
    (nx : ∀ ys us S1 H1 s1, Wd p S0 H0 S1 H1 (L.set j (q, .lst us)) → PotAt p s1 S1 H1 → Ex S S1 → All R S1 ys us → Mir.run (k ys) s1 = some z → tz D σ H1) : tSeq (tDrop (tBM K "list" rExtend (tVar i) (tCons te tNil))) tz D σ H :=
  ⟨.ref q, e, ty_own (w.at hj).1, h S H s (Gm.rf w.i) ps _ z hm _ fun a x us S1 H1 s1 g p1 n1 e2 n2 m2 r hm1 => by
    obtain ⟨_, e1, hm1⟩ := run_of_lft hm1
    have hl := grd_of e1
    have w1 := w.go g
    have hr : All R S1 a us := r
    refine ⟨q, x, vs, us, rfl, rfl, (w1.at hj).1, e2, by rw [← ha.len, ← hr.len, sizeLine_eq]; omega, ?_⟩
    exact nx (xs ++ a) (vs ++ us) S1 _ s1 (w1.put hj) (p1.put (w.nmAt hj)) g.s ((ha.mo g.s).app hr) hm1⟩
/-- xs[i] = e -/
theorem q_put {i j : Nat} {q : Addr} {vs : List V} {xs : List α} {m : (α → μ β) → μ β} {mi : (Int → μ β) → μ β} {R : Rp α} [Mo R] {k : List α → μ β} (w : Wd p S0 H0 S H L) (ps : PotAt p s S H) (hj : L[j]? = some (q, .lst vs)) (e : σ[i]? = some (some (.ref q))) (ha : All R S xs vs) (h : Ev p te σ S H m R) (hi : Ev p ta σ S H mi rI)
    (hm : Mir.run (m fun a => mi fun n => Mir.lft (ixN xs.length n) >>= fun o => bnd (xs.set o a) k) s = some z)
    (nx : ∀ ys us S1 H1 s1, Wd p S0 H0 S1 H1 (L.set j (q, .lst us)) → PotAt p s1 S1 H1 → Ex S S1 → All R S1 ys us → Mir.run (k ys) s1 = some z → tz D σ H1) : tSeq (tAsg te (gSub (tVar i) ta rSetL)) tz D σ H :=
  h S H s (Gm.rf w.i) ps _ z hm _ fun a v S1 H1 s1 g p1 r hm1 => ⟨.ref q, e, hi S1 H1 s1 g p1 _ z hm1 _ fun n u S2 H2 s2 g2 p2 r2 hm2 => by
    obtain ⟨o, e1, hm2⟩ := run_of_lft hm2
    have w2 := (w.go g).go g2
    cases (show u = .int n from r2)
    refine ⟨q, vs, n, o, rfl, rfl, (w2.at hj).1, by rw [← ha.len]; exact e1, ?_⟩
    exact nx (xs.set o a) (vs.set o v) S2 _ s2 (w2.put hj) (p2.put (w.nmAt hj)) (g.s.tr g2.s) ((ha.mo (g.s.tr g2.s)).set (Mo.mo g2.s r) o) hm2⟩

/-! ### while -/
def whS : Nat → (ζ → (Bool → μ ζ) → μ ζ) → (ζ → μ ζ) → ζ → μ ζ
  | 0, _, _, _ => Mir.lft none
  | n + 1, c, b, st => c st fun t => if t = true then b st >>= whS n c b else pure st
inductive Ctl (ρ ζ : Type) where
  | go (s : ζ) | brk (s : ζ) | ret (r : ρ)
def aft {ρ β : Type} : Ctl ρ ζ → (ζ → β) → (ρ → β) → β
  | .go s, f, _ => f s
  | .brk s, f, _ => f s
  | .ret r, _, g => g r
def whC {ρ : Type} : Nat → (ζ → (Bool → μ (Ctl ρ ζ)) → μ (Ctl ρ ζ)) → (ζ → μ (Ctl ρ ζ)) → ζ → μ (Ctl ρ ζ)
  | 0, _, _, _ => Mir.lft none
  | n + 1, c, b, st => c st fun t => if t = true then b st >>= fun o => match o with | .go st' => whC n c b st' | x => pure x else pure (.go st)
/-- more turns than any loop has -/
@[irreducible] def many : Nat := 10 ^ 40
theorem q_wh {n : Nat} {c : ζ → (Bool → μ ζ) → μ ζ} {b : ζ → μ ζ} {st0 : ζ} {k : ζ → μ β} (Iv : ζ → St → Hp → Hp → τ → Prop) (h0 : Iv st0 σ S H s) (hm : Mir.run (whS n c b st0 >>= k) s = some z)
    (hc : ∀ st σ1 S1 H1 s1, Iv st σ1 S1 H1 s1 → PotAt p s1 S1 H1 ∧ Ex S1 H1 ∧ EvT p tt σ1 S1 H1 (c st))
    (hg : ∀ st σ1 S1 H1 s1 S2 H2 s2, Iv st σ1 S1 H1 s1 → Gm p.M S1 H1 S2 H2 → PotAt p s2 S2 H2 → Iv st σ1 S2 H2 s2)
    (hb : ∀ st σ1 S1 H1 s1 st' s2 (D' : Ends), Iv st σ1 S1 H1 s1 → Mir.run (b st) s1 = some (st', s2) → (∀ σ' S' H', Iv st' σ' S' H' s2 → D'.nx σ' H' ∧ D'.ct σ' H') → tu D' σ1 H1)
    (nx : ∀ st σ1 S1 H1 s1, Iv st σ1 S1 H1 s1 → Mir.run (k st) s1 = some z → tz D σ1 H1) : tSeq (tWhile tt tu) tz D σ H := by
  obtain ⟨stf, sf, e1, e2⟩ := run_of_bind hm
  refine ⟨fun m σ H => ∃ st S s, Iv st σ S H s ∧ Mir.run (whS m c b st) s = some (stf, sf), ⟨n, st0, S, s, h0, e1⟩, ?_⟩
  rintro m σ1 H1 ⟨st, S1, s1, iv, e⟩
  obtain ⟨p1, x1, t1⟩ := hc st σ1 S1 H1 s1 iv
  cases m with
  | zero =>
    exfalso
    have e' : Mir.run (Mir.lft none : μ ζ) s1 = some (stf, sf) := e
    rw [Mir.run_lft] at e'
    cases e'
  | succ m =>
    refine t1 S1 H1 s1 (Gm.rf x1) p1 _ (stf, sf) e _ fun t S2 H2 s2 g2 p2 hm2 => ?_
    have iv2 := hg st σ1 S1 H1 s1 S2 H2 s2 iv g2 p2
    cases t with
    | true =>
      obtain ⟨st', s3, e3, e4⟩ := run_of_bind (by simpa using hm2)
      refine iteT ⟨fun σ' H' => ∃ S', Iv st' σ' S' H' s3, fun σ' H' ⟨S', i'⟩ => ⟨m, Nat.lt_succ_self m, st', S', s3, i', e4⟩, ?_⟩
      exact hb st σ1 S2 H2 s2 st' s3 _ iv2 e3 fun σ' S' H' i' => ⟨⟨S', i'⟩, ⟨S', i'⟩⟩
    | false =>
      have e3 : Mir.run (pure st : μ ζ) s2 = some (stf, sf) := by simpa using hm2
      cases run_of_pure e3
      exact iteF (nx _ σ1 S2 H2 _ iv2 e2)
/-- with ways out -/
theorem q_whC {ρ : Type} {n : Nat} {c : ζ → (Bool → μ (Ctl ρ ζ)) → μ (Ctl ρ ζ)} {b : ζ → μ (Ctl ρ ζ)} {st0 : ζ} {k : Ctl ρ ζ → μ β} (Iv : ζ → St → Hp → Hp → τ → Prop) (Rt : ρ → V → Hp → τ → Prop) (h0 : Iv st0 σ S H s) (hm : Mir.run (whC n c b st0 >>= k) s = some z)
    (hc : ∀ st σ1 S1 H1 s1, Iv st σ1 S1 H1 s1 → PotAt p s1 S1 H1 ∧ Ex S1 H1 ∧ EvT p tt σ1 S1 H1 (c st))
    (hg : ∀ st σ1 S1 H1 s1 S2 H2 s2, Iv st σ1 S1 H1 s1 → Gm p.M S1 H1 S2 H2 → PotAt p s2 S2 H2 → Iv st σ1 S2 H2 s2)
    (hb : ∀ st σ1 S1 H1 s1 o s2 (D' : Ends), Iv st σ1 S1 H1 s1 → Mir.run (b st) s1 = some (o, s2) →
      (∀ st' σ' S' H', o = .go st' → Iv st' σ' S' H' s2 → D'.nx σ' H' ∧ D'.ct σ' H') → (∀ st' σ' S' H', o = .brk st' → Iv st' σ' S' H' s2 → D'.bk σ' H') → (∀ r v H', o = .ret r → Rt r v H' s2 → D'.rt v H') → tu D' σ1 H1)
    (nx : ∀ st σ1 S1 H1 s1, Iv st σ1 S1 H1 s1 → Mir.run (k (.go st)) s1 = some z ∨ Mir.run (k (.brk st)) s1 = some z → tz D σ1 H1)
    (rt : ∀ r v H1 s1, Rt r v H1 s1 → Mir.run (k (.ret r)) s1 = some z → D.rt v H1) : tSeq (tWhile tt tu) tz D σ H := by
  obtain ⟨of, sf, e1, e2⟩ := run_of_bind hm
  refine ⟨fun m σ H => ∃ st S s, Iv st σ S H s ∧ Mir.run (whC m c b st) s = some (of, sf), ⟨n, st0, S, s, h0, e1⟩, ?_⟩
  rintro m σ1 H1 ⟨st, S1, s1, iv, e⟩
  obtain ⟨p1, x1, t1⟩ := hc st σ1 S1 H1 s1 iv
  cases m with
  | zero =>
    exfalso
    have e' : Mir.run (Mir.lft none : μ (Ctl ρ ζ)) s1 = some (of, sf) := e
    rw [Mir.run_lft] at e'
    cases e'
  | succ m =>
    refine t1 S1 H1 s1 (Gm.rf x1) p1 _ (of, sf) e _ fun t S2 H2 s2 g2 p2 hm2 => ?_
    have iv2 := hg st σ1 S1 H1 s1 S2 H2 s2 iv g2 p2
    cases t with
    | true =>
      obtain ⟨o, s3, e3, e4⟩ := run_of_bind (by simpa using hm2)
      cases o with
      | go st' =>
        have e4' : Mir.run (whC m c b st') s3 = some (of, sf) := e4
        refine iteT ⟨fun σ' H' => ∃ S', Iv st' σ' S' H' s3, fun σ' H' ⟨S', i'⟩ => ⟨m, Nat.lt_succ_self m, st', S', s3, i', e4'⟩, ?_⟩
        refine hb st σ1 S2 H2 s2 _ s3 _ iv2 e3 (fun st2 σ' S' H' q i' => ?_) (fun _ _ _ _ q _ => nomatch q) (fun _ _ _ q _ => nomatch q)
        cases q
        exact ⟨⟨S', i'⟩, ⟨S', i'⟩⟩
      | brk st' =>
        have e4' : Mir.run (pure (Ctl.brk st') : μ (Ctl ρ ζ)) s3 = some (of, sf) := e4
        cases run_of_pure e4'
        refine iteT ⟨fun _ _ => False, fun _ _ q => q.elim, ?_⟩
        refine hb st σ1 S2 H2 s2 _ _ _ iv2 e3 (fun _ _ _ _ q _ => nomatch q) (fun st2 σ' S' H' q i' => ?_) (fun _ _ _ q _ => nomatch q)
        cases q
        exact nx _ _ _ _ _ i' (.inr e2)
      | ret r =>
        have e4' : Mir.run (pure (Ctl.ret r) : μ (Ctl ρ ζ)) s3 = some (of, sf) := e4
        cases run_of_pure e4'
        refine iteT ⟨fun _ _ => False, fun _ _ q => q.elim, ?_⟩
        refine hb st σ1 S2 H2 s2 _ _ _ iv2 e3 (fun _ _ _ _ q _ => nomatch q) (fun _ _ _ _ q _ => nomatch q) (fun r2 v H' q i' => ?_)
        cases q
        exact rt _ _ _ _ i' e2
    | false =>
      have e3 : Mir.run (pure (.go st) : μ (Ctl ρ ζ)) s2 = some (of, sf) := by simpa using hm2
      cases run_of_pure e3
      exact iteF (nx _ σ1 S2 H2 _ iv2 (.inl e2))

/-! ### what is walked -/
abbrev Own := List (Addr × List V)
def OwnOk (p : Pt τ) (H : Hp) (O : Own) : Prop := ∀ c ∈ O, H c.1 = some (.lst c.2) ∧ c.1 ∉ p.M
def ItOk (p : Pt τ) (J : It) (xs : List α) (R : Rp α) (S : Hp) (O : Own) : Prop :=
  ∀ S1 H1, Ex S S1 → Ex S1 H1 → OwnOk p H1 O → (∀ i, i < xs.length → J.go i H1) ∧ J.stop xs.length H1 ∧ ∀ i x v H2, xs[i]? = some x → J.yld i H1 v H2 → ∃ S2, Gm [] S1 H1 S2 H2 ∧ R x v S2
def EvI (p : Pt τ) (wi : TI) (σ : St) (S H : Hp) (m : (List α → μ β) → μ β) (R : Rp α) (O : Own) : Prop :=
  ∀ S1 H1 s, Gm p.M S H S1 H1 → PotAt p s S1 H1 → ∀ (k : List α → μ β) z, Mir.run (m k) s = some z → ∀ Q : It → Hp → Prop,
    (∀ xs J S2 H2 s2, Gm p.M S1 H1 S2 H2 → PotAt p s2 S2 H2 → ItOk p J xs R S2 O → Mir.run (k xs) s2 = some z → Q J H2) → wi σ H1 Q
theorem it_list {q : Addr} {xs : List α} {vs : List V} {R : Rp α} [Mo R] {O : Own} (hl : All R S xs vs) (h : ∀ S1 H1, Ex S S1 → Ex S1 H1 → OwnOk p H1 O → SqL K H1 q vs) : ItOk p (Itl K q) xs R S O := fun S1 H1 e1 e2 o => by
  have hq := h S1 H1 e1 e2 o
  refine ⟨fun i hi => ⟨vs, vs[i]'(by rw [← hl.len]; exact hi), hq, List.getElem?_eq_getElem _⟩, ⟨vs, hq, by rw [hl.len]; exact Nat.le_refl _⟩, fun i x v H2 hx y => ?_⟩
  obtain ⟨e3, y⟩ := y
  subst e3
  obtain ⟨u, hu, ru⟩ := hl.get hx
  rw [y vs hq] at hu
  cases hu
  exact ⟨S1, Gm.rf e2, Mo.mo e1 ru⟩
theorem i_L {m : (List α → μ β) → μ β} {R : Rp α} [Mo R] (h : Ev p te σ S H m (rL (aAll R))) : EvI p (iList K te) σ S H m R [] := fun S1 H1 s g ps k z hm Q q =>
  h S1 H1 s g ps k z hm _ fun a v S2 H2 s2 g2 p2 ⟨x, vs, e, h1, h2⟩ hm2 => ⟨x, e, ⟨vs, .of (g2.i _ _ h1)⟩, q a _ S2 H2 s2 g2 p2 (it_list h2 fun S3 H3 e1 e2 _ => .of (e2 _ _ (e1 _ _ h1))) hm2⟩
theorem i_own {i : Nat} {xs : List α} {q : Addr} {vs : List V} {R : Rp α} [Mo R] (e : σ[i]? = some (some (.ref q))) (hq : H q = some (.lst vs)) (hM : q ∉ p.M) (r : All R S xs vs) : EvI (μ := μ) (β := β) p (iList K (tVar i)) σ S H (fun k => k xs) R [(q, vs)] :=
  fun _ H1 _ g ps _ _ hm _ k => ⟨.ref q, e, q, rfl, ⟨vs, .of (g.h _ _ hM hq)⟩, k _ _ _ _ _ (Gm.rf g.i) ps (it_list (r.mo g.s) fun S3 H3 e1 e2 o => .of (o (q, vs) (by simp)).1) hm⟩
theorem i_T {m : (List α → μ β) → μ β} {R : Rp α} [Mo R] (h : Ev p te σ S H m (rT K (aAll R))) : EvI p (iTup K te) σ S H m R [] := fun S1 H1 s g ps k z hm Q q =>
  h S1 H1 s g ps k z hm _ fun a v S2 H2 s2 g2 p2 ⟨x, vs, e, h1, h2⟩ hm2 => ⟨x, e, ⟨vs, sqT_ex g2.i h1⟩, q a _ S2 H2 s2 g2 p2 (fun S3 H3 e1 e2 _ => by
    have hq := sqT_ex (e1.tr e2) h1
    refine ⟨fun i hi => ⟨vs, vs[i]'(by rw [← h2.len]; exact hi), hq, List.getElem?_eq_getElem _⟩, ⟨vs, hq, by rw [h2.len]; exact Nat.le_refl _⟩, fun i x v H2 hx y => ?_⟩
    obtain ⟨e3, y⟩ := y
    subst e3
    obtain ⟨u, hu, ru⟩ := h2.get hx
    rw [y vs hq] at hu
    cases hu
    exact ⟨S3, Gm.rf e2, Mo.mo e1 ru⟩) hm2⟩
/-- lo, lo + 1, .., below hi -/
def rng (lo hi : Int) : List Int := (List.range (hi - lo).toNat).map fun (i : Nat) => lo + (i : Int)
theorem it_rng {lo : Int} {n : Nat} {O : Own} : ItOk p (Itr lo n) ((List.range n).map fun (i : Nat) => lo + (i : Int)) rI S O := fun S1 H1 _ e2 _ => by
  refine ⟨fun i hi => by show i < n; simpa using hi, by show n ≤ _; simp, fun i x v H2 hx y => ?_⟩
  obtain ⟨e3, y⟩ := y
  subst e3
  subst y
  refine ⟨S1, Gm.rf e2, ?_⟩
  rw [List.getElem?_map] at hx
  have hi : i < n := by
    by_cases h : i < n
    · exact h
    · rw [List.getElem?_eq_none (by simpa using h)] at hx; cases hx
  rw [List.getElem?_eq_getElem (by simpa using hi)] at hx
  simp at hx
  show V.int _ = V.int _
  rw [← hx]
def RgB (i : Int) : Prop := -(2 ^ 62) ≤ i ∧ i < 2 ^ 62
instance (i : Int) : Decidable (RgB i) := inferInstanceAs (Decidable (_ ∧ _))
theorem i_R1 {m : (Int → μ β) → μ β} (h : Ev p te σ S H m rI) : EvI p (iRng1 (tCons te tNil)) σ S H (fun k => m fun n => Mir.lft (grd (RgB n)) >>= fun _ => k (rng 0 n)) rI [] := fun S1 H1 s g ps k z hm Q q =>
  h S1 H1 s g ps _ z hm _ fun n v S2 H2 s2 g2 p2 r hm2 => by
    obtain ⟨_, e, hm2⟩ := run_of_lft hm2
    have hb := grd_of e
    cases (show v = .int n from r)
    refine ⟨n, rfl, hb.1, hb.2, q _ _ S2 H2 s2 g2 p2 ?_ hm2⟩
    unfold rng
    rw [Int.sub_zero]
    exact it_rng
theorem i_R2 {m m' : (Int → μ β) → μ β} (h : Ev p ta σ S H m rI) (h' : Ev p tb σ S H m' rI) : EvI p (iRng2 (tCons ta (tCons tb tNil))) σ S H (fun k => m fun i => m' fun j => Mir.lft (grd (RgB i ∧ RgB j)) >>= fun _ => k (rng i j)) rI [] := fun S1 H1 s g ps k z hm Q q =>
  h S1 H1 s g ps _ z hm _ fun i v S2 H2 s2 g2 p2 r hm2 => h' S2 H2 s2 (g.tr g2) p2 _ z hm2 _ fun j u S3 H3 s3 g3 p3 r3 hm3 => by
    obtain ⟨_, e, hm3⟩ := run_of_lft hm3
    have hb := grd_of e
    cases (show v = .int i from r)
    cases (show u = .int j from r3)
    exact ⟨i, j, rfl, ⟨hb.1.1, hb.1.2, hb.2.1, hb.2.2⟩, q _ _ S3 H3 s3 (g2.tr g3) p3 it_rng hm3⟩

/-! ### for -/
def lpS : List α → (α → ζ → μ ζ) → ζ → μ ζ
  | [], _, st => pure st
  | x :: xs, f, st => f x st >>= lpS xs f
def lpC {ρ : Type} : List α → (α → ζ → μ (Ctl ρ ζ)) → ζ → μ (Ctl ρ ζ)
  | [], _, st => pure (.go st)
  | x :: xs, f, st => f x st >>= fun o => match o with | .go st' => lpC xs f st' | y => pure y
theorem q_for {wi : TI} {g : TG} {O : Own} {m : (List α → μ β) → μ β} {R : Rp α} {P : α → St → St → Hp → Prop} {b : α → ζ → μ ζ} {st0 : ζ} {k : ζ → μ β} (w : Wd p S0 H0 S H L) (ps : PotAt p s S H) (hi : EvI p wi σ S H m R O) (ht : Tg g R P) (hm : Mir.run (m fun xs => lpS xs b st0 >>= k) s = some z)
    (Iv : Hp → ζ → St → Hp → Hp → τ → Prop)
    (h0 : ∀ S1 H1 s1, Wd p S0 H0 S1 H1 L → PotAt p s1 S1 H1 → Gm p.M S H S1 H1 → Iv S1 st0 σ S1 H1 s1)
    (hI : ∀ Sb st σ1 S1 H1 s1, Iv Sb st σ1 S1 H1 s1 → Ex Sb S1 ∧ Ex S1 H1 ∧ PotAt p s1 S1 H1 ∧ OwnOk p H1 O)
    (hg : ∀ Sb st σ1 S1 H1 s1 S2 H2, Iv Sb st σ1 S1 H1 s1 → Gm [] S1 H1 S2 H2 → Iv Sb st σ1 S2 H2 s1)
    (hb : ∀ Sb x st σ1 σ2 S1 H1 s1 st' s2 (D' : Ends), Iv Sb st σ1 S1 H1 s1 → P x σ1 σ2 S1 → Mir.run (b x st) s1 = some (st', s2) → (∀ σ' S' H', Iv Sb st' σ' S' H' s2 → D'.nx σ' H' ∧ D'.ct σ' H') → tu D' σ2 H1)
    (nx : ∀ Sb st σ1 S1 H1 s1, Iv Sb st σ1 S1 H1 s1 → Mir.run (k st) s1 = some z → tz D σ1 H1) : tSeq (tFor wi g tu) tz D σ H :=
  hi S H s (Gm.rf w.i) ps _ z hm _ fun xs J Sb Hb sb gb pb hJ hmb => by
    obtain ⟨stf, sf, e1, e2⟩ := run_of_bind hmb
    refine ⟨fun i m σ H => m = xs.length - i ∧ i ≤ xs.length ∧ ∃ st S s, Iv Sb st σ S H s ∧ Mir.run (lpS (xs.drop i) b st) s = some (stf, sf), ⟨xs.length, by simp, Nat.zero_le _, st0, Sb, sb, h0 Sb Hb sb (w.go gb) pb gb, e1⟩, ?_⟩
    rintro i m σ1 H1 ⟨em, hi, st, S1, s1, iv, e⟩
    subst em
    obtain ⟨x1, x2, p1, o1⟩ := hI _ _ _ _ _ _ iv
    obtain ⟨j1, j2, j3⟩ := hJ S1 H1 x1 x2 o1
    by_cases hlt : i < xs.length
    · have ed : xs.drop i = xs[i] :: xs.drop (i + 1) := List.drop_eq_getElem_cons hlt
      rw [ed] at e
      obtain ⟨st', s2, e3, e4⟩ := run_of_bind (show Mir.run (b xs[i] st >>= lpS (xs.drop (i + 1)) b) s1 = some (stf, sf) from e)
      refine .inr ⟨j1 i hlt, fun σ' H' => ∃ S', Iv Sb st' σ' S' H' s2, fun σ' H' ⟨S', i'⟩ => ⟨xs.length - (i + 1), by omega, rfl, hlt, st', S', s2, i', e4⟩, fun v H2 y => ?_⟩
      obtain ⟨S2, g2, r2⟩ := j3 i xs[i] v H2 (List.getElem?_eq_getElem hlt) y
      exact ht xs[i] v σ1 S2 H2 _ g2.i r2 fun σ2 hp => hb Sb xs[i] st σ1 σ2 S2 H2 s1 st' s2 _ (hg _ _ _ _ _ _ _ _ iv g2) hp e3 fun σ' S' H' i' => ⟨⟨S', i'⟩, ⟨S', i'⟩⟩
    · have ei : i = xs.length := by omega
      subst ei
      rw [List.drop_length] at e
      cases run_of_pure (show Mir.run (pure st : μ ζ) s1 = some (stf, sf) from e)
      exact .inl ⟨j2, nx _ _ _ _ _ _ iv e2⟩
theorem q_forC {ρ : Type} {wi : TI} {g : TG} {O : Own} {m : (List α → μ β) → μ β} {R : Rp α} {P : α → St → St → Hp → Prop} {b : α → ζ → μ (Ctl ρ ζ)} {st0 : ζ} {k : Ctl ρ ζ → μ β} (w : Wd p S0 H0 S H L) (ps : PotAt p s S H) (hi : EvI p wi σ S H m R O) (ht : Tg g R P) (hm : Mir.run (m fun xs => lpC xs b st0 >>= k) s = some z)
    (Iv : Hp → ζ → St → Hp → Hp → τ → Prop) (Rt : ρ → V → Hp → τ → Prop)
    (h0 : ∀ S1 H1 s1, Wd p S0 H0 S1 H1 L → PotAt p s1 S1 H1 → Gm p.M S H S1 H1 → Iv S1 st0 σ S1 H1 s1)
    (hI : ∀ Sb st σ1 S1 H1 s1, Iv Sb st σ1 S1 H1 s1 → Ex Sb S1 ∧ Ex S1 H1 ∧ PotAt p s1 S1 H1 ∧ OwnOk p H1 O)
    (hg : ∀ Sb st σ1 S1 H1 s1 S2 H2, Iv Sb st σ1 S1 H1 s1 → Gm [] S1 H1 S2 H2 → Iv Sb st σ1 S2 H2 s1)
    (hb : ∀ Sb x st σ1 σ2 S1 H1 s1 o s2 (D' : Ends), Iv Sb st σ1 S1 H1 s1 → P x σ1 σ2 S1 → Mir.run (b x st) s1 = some (o, s2) →
      (∀ st' σ' S' H', o = .go st' → Iv Sb st' σ' S' H' s2 → D'.nx σ' H' ∧ D'.ct σ' H') → (∀ st' σ' S' H', o = .brk st' → Iv Sb st' σ' S' H' s2 → D'.bk σ' H') → (∀ r v H', o = .ret r → Rt r v H' s2 → D'.rt v H') → tu D' σ2 H1)
    (nx : ∀ Sb st σ1 S1 H1 s1, Iv Sb st σ1 S1 H1 s1 → Mir.run (k (.go st)) s1 = some z ∨ Mir.run (k (.brk st)) s1 = some z → tz D σ1 H1)
    (rt : ∀ r v H1 s1, Rt r v H1 s1 → Mir.run (k (.ret r)) s1 = some z → D.rt v H1) : tSeq (tFor wi g tu) tz D σ H :=
  hi S H s (Gm.rf w.i) ps _ z hm _ fun xs J Sb Hb sb gb pb hJ hmb => by
    obtain ⟨of, sf, e1, e2⟩ := run_of_bind hmb
    refine ⟨fun i m σ H => m = xs.length - i ∧ i ≤ xs.length ∧ ∃ st S s, Iv Sb st σ S H s ∧ Mir.run (lpC (xs.drop i) b st) s = some (of, sf), ⟨xs.length, by simp, Nat.zero_le _, st0, Sb, sb, h0 Sb Hb sb (w.go gb) pb gb, e1⟩, ?_⟩
    rintro i m σ1 H1 ⟨em, hi, st, S1, s1, iv, e⟩
    subst em
    obtain ⟨x1, x2, p1, o1⟩ := hI _ _ _ _ _ _ iv
    obtain ⟨j1, j2, j3⟩ := hJ S1 H1 x1 x2 o1
    by_cases hlt : i < xs.length
    · have ed : xs.drop i = xs[i] :: xs.drop (i + 1) := List.drop_eq_getElem_cons hlt
      rw [ed] at e
      obtain ⟨o, s2, e3, e4⟩ := run_of_bind (show Mir.run (b xs[i] st >>= fun o => match o with | .go st' => lpC (xs.drop (i + 1)) b st' | y => pure y) s1 = some (of, sf) from e)
      cases o with
      | go st' =>
        refine .inr ⟨j1 i hlt, fun σ' H' => ∃ S', Iv Sb st' σ' S' H' s2, fun σ' H' ⟨S', i'⟩ => ⟨xs.length - (i + 1), by omega, rfl, hlt, st', S', s2, i', e4⟩, fun v H2 y => ?_⟩
        obtain ⟨S2, g2, r2⟩ := j3 i xs[i] v H2 (List.getElem?_eq_getElem hlt) y
        refine ht xs[i] v σ1 S2 H2 _ g2.i r2 fun σ2 hp => hb Sb xs[i] st σ1 σ2 S2 H2 s1 _ s2 _ (hg _ _ _ _ _ _ _ _ iv g2) hp e3 (fun st2 σ' S' H' q i' => ?_) (fun _ _ _ _ q _ => nomatch q) (fun _ _ _ q _ => nomatch q)
        cases q
        exact ⟨⟨S', i'⟩, ⟨S', i'⟩⟩
      | brk st' =>
        cases run_of_pure (show Mir.run (pure (Ctl.brk st') : μ (Ctl ρ ζ)) s2 = some (of, sf) from e4)
        refine .inr ⟨j1 i hlt, fun _ _ => False, fun _ _ q => q.elim, fun v H2 y => ?_⟩
        obtain ⟨S2, g2, r2⟩ := j3 i xs[i] v H2 (List.getElem?_eq_getElem hlt) y
        refine ht xs[i] v σ1 S2 H2 _ g2.i r2 fun σ2 hp => hb Sb xs[i] st σ1 σ2 S2 H2 s1 _ _ _ (hg _ _ _ _ _ _ _ _ iv g2) hp e3 (fun _ _ _ _ q _ => nomatch q) (fun st2 σ' S' H' q i' => ?_) (fun _ _ _ q _ => nomatch q)
        cases q
        exact nx _ _ _ _ _ _ i' (.inr e2)
      | ret r =>
        cases run_of_pure (show Mir.run (pure (Ctl.ret r) : μ (Ctl ρ ζ)) s2 = some (of, sf) from e4)
        refine .inr ⟨j1 i hlt, fun _ _ => False, fun _ _ q => q.elim, fun v H2 y => ?_⟩
        obtain ⟨S2, g2, r2⟩ := j3 i xs[i] v H2 (List.getElem?_eq_getElem hlt) y
        refine ht xs[i] v σ1 S2 H2 _ g2.i r2 fun σ2 hp => hb Sb xs[i] st σ1 σ2 S2 H2 s1 _ _ _ (hg _ _ _ _ _ _ _ _ iv g2) hp e3 (fun _ _ _ _ q _ => nomatch q) (fun _ _ _ _ q _ => nomatch q) (fun r2 v' H' q i' => ?_)
        cases q
        exact rt _ _ _ _ i' e2
    · have ei : i = xs.length := by omega
      subst ei
      rw [List.drop_length] at e
      cases run_of_pure (show Mir.run (pure (.go st) : μ (Ctl ρ ζ)) s1 = some (of, sf) from e)
      exact .inl ⟨j2, nx _ _ _ _ _ _ iv (.inl e2)⟩

/-! ### comprehensions -/
def cns : Option γ → List γ → List γ
  | some y, r => y :: r
  | none, r => r
def cmp : List α → (α → μ (Option γ)) → μ (List γ)
  | [], _ => pure []
  | x :: xs, f => f x >>= fun o => cmp xs f >>= fun r => pure (cns o r)
theorem OwnOk.go {O : Own} {S1 H1 : Hp} (o : OwnOk p H O) (g : Gm p.M S H S1 H1) : OwnOk p H1 O := fun c h => ⟨g.h _ _ (o c h).2 (o c h).1, (o c h).2⟩
theorem OwnOk.put {O : Own} {q : Addr} {u : HO} (o : OwnOk p H O) (n : ∀ c ∈ O, c.1 ≠ q) : OwnOk p (upd H q u) O := fun c h => ⟨by rw [upd_ne (n c h)]; exact (o c h).1, (o c h).2⟩
theorem ownOk0 : OwnOk p H [] := fun _ h => nomatch h
theorem ownOk1 {q : Addr} {vs : List V} (h : H q = some (.lst vs)) (m : q ∉ p.M) : OwnOk p H [(q, vs)] := fun c hc => by
  have e : c = (q, vs) := by simpa using hc
  rw [e]
  exact ⟨h, m⟩
theorem lc_go {g : TG} {vs : List Nat} {O : Own} {R : Rp α} {P : α → St → St → Hp → Prop} {R' : Rp γ} [Mo R'] {mt : α → (Bool → μ (Option γ)) → μ (Option γ)} {me : α → (γ → μ (Option γ)) → μ (Option γ)} {J : It} {xs : List α} {rf : List γ} {sb sf : τ} {Sb Hb : Hp} {Q : VK}
    (g1 : Gm p.M S H Sb Hb) (pb : PotAt p sb Sb Hb) (hJ : ItOk p J xs R Sb O) (hl : xs.length ≤ 16000000) (ho : OwnOk p H O) (ht : Tg g R P) (hw : ∀ x σ' S, P x (wipe σ vs) σ' S → wipe σ' vs = wipe σ vs)
    (hc : ∀ x σ' S1 H1, Gm p.M S H S1 H1 → P x (wipe σ vs) σ' S1 → EvT p tt σ' S1 H1 (mt x))
    (he : ∀ x σ' S1 H1, Gm p.M S H S1 H1 → P x (wipe σ vs) σ' S1 → Ev p te σ' S1 H1 (me x) R') (hP : PMo P)
    (e1 : Mir.run (cmp xs (fun x => mt x fun b => if b = true then me x fun y => pure (some y) else pure none)) sb = some (rf, sf))
    (q : ∀ x us S2 H2, Gm p.M Sb Hb S2 H2 → PotAt p sf S2 H2 → Hb x = none → H2 x = some (.lst us) → S2 x = none → x ∉ p.M → All R' S2 rf us → Q (.ref x) H2) :
    ∀ D, Hb D = none → ∃ W : Nat → Nat → Hp → Prop, (∃ m, W 0 m (upd Hb D (.lst []))) ∧ ∀ i m H, W i m H →
      (J.stop i H ∧ Q (.ref D) H) ∨ (J.go i H ∧ ∃ Nx : Hp → Prop, (∀ H', Nx H' → ∃ m', m' < m ∧ W (i + 1) m' H') ∧ ∀ x H', J.yld i H x H' → g x (wipe σ vs) H' fun σ2 H2 => wipe σ2 vs = wipe σ vs ∧ tt σ2 H2 fun b H3 =>
        if b = true then te σ2 H3 fun y H4 => ∃ acc, H4 D = some (.lst acc) ∧ acc.length < sizeLine ∧ Nx (upd H4 D (.lst (acc ++ [y]))) else Nx H3) := by
    intro Dl hD
    have nS : Sb Dl = none := g1.i.no hD
    have oM : Dl ∉ p.M := new_nM pb hD
    have ob : OwnOk p Hb O := ho.go g1
    have oD : ∀ c ∈ O, c.1 ≠ Dl := fun c h e => by
      have := (ob c h).1
      rw [e, hD] at this; cases this
    refine ⟨fun i m H => m = xs.length - i ∧ i ≤ xs.length ∧ ∃ acc avs rest S s, Gm p.M Sb Hb S H ∧ PotAt p s S H ∧ S Dl = none ∧ H Dl = some (.lst avs) ∧ All R' S acc avs ∧ avs.length ≤ i ∧ OwnOk p H O ∧
      Mir.run (cmp (xs.drop i) (fun x => mt x fun b => if b = true then me x fun y => pure (some y) else pure none)) s = some (rest, sf) ∧ rf = acc ++ rest, ⟨xs.length, by simp, Nat.zero_le _, [], [], rf, Sb, sb, Gm.own g1.i hD, pb.put oM, nS, upd_same, .nil, Nat.le_refl _, ob.put oD, e1, rfl⟩, ?_⟩
    rintro i m H2 ⟨em, hi, acc, avs, rest, S2, s2, g2, p2, n2, d2, a2, l2, o2, r2, er⟩
    subst em
    obtain ⟨j1, j2, j3⟩ := hJ S2 H2 g2.s g2.i o2
    by_cases hlt : i < xs.length
    · have ed : xs.drop i = xs[i] :: xs.drop (i + 1) := List.drop_eq_getElem_cons hlt
      rw [ed] at r2
      obtain ⟨o, s3, e3, e4⟩ := run_of_bind (show Mir.run ((mt xs[i] fun b => if b = true then me xs[i] fun y => pure (some y) else pure none) >>= fun o => cmp (xs.drop (i + 1)) (fun x => mt x fun b => if b = true then me x fun y => pure (some y) else pure none) >>= fun r => pure (cns o r)) s2 = some (rest, sf) from r2)
      obtain ⟨rest', s4, e5, e6⟩ := run_of_bind e4
      have e7 := run_of_pure e6
      have e8 : rest = cns o rest' := congrArg Prod.fst e7
      have e9 : sf = s4 := congrArg Prod.snd e7
      subst e9
      refine .inr ⟨j1 i hlt, fun H' => ∃ acc avs S, Gm p.M Sb Hb S H' ∧ PotAt p s3 S H' ∧ S Dl = none ∧ H' Dl = some (.lst avs) ∧ All R' S acc avs ∧ avs.length ≤ i + 1 ∧ OwnOk p H' O ∧ rf = acc ++ rest', fun H' ⟨acc, avs, S, h1, h2, h3, h4, h5, h6, h7, h8⟩ => ⟨xs.length - (i + 1), by omega, rfl, hlt, acc, avs, rest', S, s3, h1, h2, h3, h4, h5, h6, h7, e5, h8⟩, fun v H3 y => ?_⟩
      obtain ⟨S3, g3, r3⟩ := j3 i xs[i] v H3 (List.getElem?_eq_getElem hlt) y
      have gA : Gm p.M S H S3 H3 := (g1.tr g2).tr g3.up
      refine ht xs[i] v (wipe σ vs) S3 H3 _ g3.i r3 fun σ3 hp => ⟨hw _ _ _ hp, ?_⟩
      refine hc xs[i] σ3 S3 H3 gA hp S3 H3 s2 (Gm.rf g3.i) (p2.go g3) _ (o, s3) e3 _ fun b S4 H4 s4 g4 p4 hm4 => ?_
      have d4 : H4 Dl = some (.lst avs) := g4.h _ _ oM (g3.h _ _ (by simp) d2)
      have n4 : S4 Dl = none := g4.f _ _ (g3.h _ _ (by simp) d2) (g3.f _ _ d2 n2)
      have a4 := a2.mo (g3.s.tr g4.s)
      cases b with
      | true =>
        refine iteT (he xs[i] σ3 S4 H4 (gA.tr g4) (hP _ _ _ _ _ g4.s hp) S4 H4 s4 (Gm.rf g4.i) p4 _ (o, s3) (by simpa using hm4) _ fun c u S5 H5 s5 g5 p5 r5 hm5 => ?_)
        have e10 := run_of_pure hm5
        have e11 : o = some c := congrArg Prod.fst e10
        have e12 : s3 = s5 := congrArg Prod.snd e10
        subst e11
        subst e12
        have d5 : H5 Dl = some (.lst avs) := g5.h _ _ oM d4
        have n5 : S5 Dl = none := g5.f _ _ d4 n4
        refine ⟨avs, d5, by rw [sizeLine_eq]; omega, acc ++ [c], avs ++ [u], S5, ?_, p5.put oM, n5, upd_same, (a4.mo g5.s).app (.cons r5 .nil), by simp; omega, (((o2.go g3.up).go g4).go g5).put oD, ?_⟩
        · exact (((g2.tr g3.up).tr g4).tr g5).put hD n5
        · rw [er, e8]; simp [cns]
      | false =>
        have e10 := run_of_pure (show Mir.run (pure none : μ (Option γ)) s4 = some (o, s3) by simpa using hm4)
        have e11 : o = none := congrArg Prod.fst e10
        have e12 : s3 = s4 := congrArg Prod.snd e10
        subst e11
        subst e12
        exact iteF ⟨acc, avs, S4, (g2.tr g3.up).tr g4, p4, n4, d4, a4, by omega, (o2.go g3.up).go g4, by rw [er, e8]; rfl⟩
    · have ei : i = xs.length := by omega
      subst ei
      rw [List.drop_length] at r2
      have e3 := run_of_pure (show Mir.run (pure [] : μ (List γ)) s2 = some (rest, sf) from r2)
      have e4 : rest = [] := congrArg Prod.fst e3
      have e5 : sf = s2 := congrArg Prod.snd e3
      subst e4
      subst e5
      rw [List.append_nil] at er
      subst er
      exact .inl ⟨j2, q Dl avs S2 H2 g2 p2 hD d2 n2 oM a2⟩
theorem l_lc {wi : TI} {g : TG} {vs : List Nat} {O : Own} {mi : (List α → μ β) → μ β} {R : Rp α} {P : α → St → St → Hp → Prop} {R' : Rp γ} [Mo R'] {mt : α → (Bool → μ (Option γ)) → μ (Option γ)} {me : α → (γ → μ (Option γ)) → μ (Option γ)}
    (hi : EvI p wi σ S H mi R O) (ho : OwnOk p H O) (ht : Tg g R P) (hw : ∀ x σ' S, P x (wipe σ vs) σ' S → wipe σ' vs = wipe σ vs)
    (hc : ∀ x σ' S1 H1, Gm p.M S H S1 H1 → P x (wipe σ vs) σ' S1 → EvT p tt σ' S1 H1 (mt x))
    (he : ∀ x σ' S1 H1, Gm p.M S H S1 H1 → P x (wipe σ vs) σ' S1 → Ev p te σ' S1 H1 (me x) R') (hP : PMo P) :
    EvL p (tLc wi g tt te vs) σ S H (fun k => mi fun xs => Mir.lft (grd (xs.length ≤ 16000000)) >>= fun _ => cmp xs (fun x => mt x fun b => if b = true then me x fun y => pure (some y) else pure none) >>= k) (aAll R') := fun S1 H1 s g1 ps k z hm Q q =>
  hi S1 H1 s g1 ps _ z hm _ fun xs J Sb Hb sb gb pb hJ hmb => by
    obtain ⟨_, el, hmb⟩ := run_of_lft hmb
    have hl := grd_of el
    obtain ⟨rf, sf, e1, e2⟩ := run_of_bind hmb
    exact lc_go (g1.tr gb) pb hJ hl ho ht hw hc he hP e1 fun x us S2 H2 g2 p2 n e n2 m2 a2 => by
      have n1 : H1 x = none := by
        cases e : H1 x with
        | none => rfl
        | some u => obtain ⟨u', e'⟩ := gb.t x u e; rw [n] at e'; cases e'
      exact q rf x us S2 H2 sf (gb.tr g2) p2 n1 e n2 m2 a2 e2
/-- without a test -/
theorem l_lc1 {wi : TI} {g : TG} {vs : List Nat} {O : Own} {mi : (List α → μ β) → μ β} {R : Rp α} {P : α → St → St → Hp → Prop} {R' : Rp γ} [Mo R'] {me : α → (γ → μ (Option γ)) → μ (Option γ)}
    (hi : EvI p wi σ S H mi R O) (ho : OwnOk p H O) (ht : Tg g R P) (hw : ∀ x σ' S, P x (wipe σ vs) σ' S → wipe σ' vs = wipe σ vs)
    (he : ∀ x σ' S1 H1, Gm p.M S H S1 H1 → P x (wipe σ vs) σ' S1 → Ev p te σ' S1 H1 (me x) R') (hP : PMo P) :
    EvL p (tLc wi g tYes te vs) σ S H (fun k => mi fun xs => Mir.lft (grd (xs.length ≤ 16000000)) >>= fun _ => cmp xs (fun x => me x fun y => pure (some y)) >>= k) (aAll R') :=
  l_lc (mt := fun _ k => k true) hi ho ht hw (fun _ _ _ _ _ _ => fun S1 H1 s g ps k z hm Q q => q true S1 H1 s (Gm.rf g.i) ps hm) he hP
/-- the test and the item are asked without a condition -/
theorem cmp_all {t : α → Bool} {f : α → γ} : ∀ (xs : List α) (s : τ), Mir.run (cmp (μ := μ) xs fun x => if t x = true then pure (some (f x)) else pure none) s = some ((xs.filter t).map f, s)
  | [], s => Mir.run_pure _ _
  | x :: xs, s => by
    show Mir.run ((if t x = true then pure (some (f x)) else pure none) >>= fun o => cmp (μ := μ) xs _ >>= fun r => pure (cns o r)) s = _
    have e : (if t x = true then pure (some (f x)) else pure none : μ (Option γ)) = pure (if t x = true then some (f x) else none) := by split <;> rfl
    rw [e, Mir.run_bind, Mir.run_pure]
    show Mir.run (cmp (μ := μ) xs _ >>= fun r => pure (cns _ r)) s = _
    rw [Mir.run_bind, cmp_all xs s]
    show Mir.run (pure _ : μ (List γ)) s = _
    rw [Mir.run_pure]
    cases h : t x with
    | true => simp [cns, List.filter_cons, h]
    | false => simp [cns, List.filter_cons, h]
theorem l_lcT {wi : TI} {g : TG} {vs : List Nat} {O : Own} {mi : (List α → μ β) → μ β} {R : Rp α} {P : α → St → St → Hp → Prop} {R' : Rp γ} [Mo R'] {t : α → Bool} {f : α → γ}
    (hi : EvI p wi σ S H mi R O) (ho : OwnOk p H O) (ht : Tg g R P) (hw : ∀ x σ' S, P x (wipe σ vs) σ' S → wipe σ' vs = wipe σ vs)
    (hc : ∀ x σ' S1 H1, Gm p.M S H S1 H1 → P x (wipe σ vs) σ' S1 → EvT (μ := μ) (β := Option γ) p tt σ' S1 H1 (fun k => k (t x)))
    (he : ∀ x σ' S1 H1, Gm p.M S H S1 H1 → P x (wipe σ vs) σ' S1 → Ev (μ := μ) (β := Option γ) p te σ' S1 H1 (fun k => k (f x)) R') (hP : PMo P) :
    EvL p (tLc wi g tt te vs) σ S H (fun k => mi fun xs => Mir.lft (grd (xs.length ≤ 16000000)) >>= fun _ => k ((xs.filter t).map f)) (aAll R') := fun S1 H1 s g1 ps k z hm Q q =>
  hi S1 H1 s g1 ps _ z hm _ fun xs J Sb Hb sb gb pb hJ hmb => by
    obtain ⟨_, el, hmb⟩ := run_of_lft hmb
    exact lc_go (mt := fun x k => k (t x)) (me := fun x k => k (f x)) (g1.tr gb) pb hJ (grd_of el) ho ht hw hc he hP (cmp_all xs sb) fun x us S2 H2 g2 p2 n e n2 m2 a2 => by
      have n1 : H1 x = none := by
        cases e : H1 x with
        | none => rfl
        | some u => obtain ⟨u', e'⟩ := gb.t x u e; rw [n] at e'; cases e'
      exact q _ x us S2 H2 sb (gb.tr g2) p2 n1 e n2 m2 a2 hmb
theorem filter_T (xs : List α) : (xs.filter fun _ => true) = xs := List.filter_eq_self.mpr fun _ _ => rfl
theorem l_lc1T {wi : TI} {g : TG} {vs : List Nat} {O : Own} {mi : (List α → μ β) → μ β} {R : Rp α} {P : α → St → St → Hp → Prop} {R' : Rp γ} [Mo R'] {f : α → γ}
    (hi : EvI p wi σ S H mi R O) (ho : OwnOk p H O) (ht : Tg g R P) (hw : ∀ x σ' S, P x (wipe σ vs) σ' S → wipe σ' vs = wipe σ vs)
    (he : ∀ x σ' S1 H1, Gm p.M S H S1 H1 → P x (wipe σ vs) σ' S1 → Ev (μ := μ) (β := Option γ) p te σ' S1 H1 (fun k => k (f x)) R') (hP : PMo P) :
    EvL p (tLc wi g tYes te vs) σ S H (fun k => mi fun xs => Mir.lft (grd (xs.length ≤ 16000000)) >>= fun _ => k (xs.map f)) (aAll R') := fun S1 H1 s g1 ps k z hm Q q =>
  hi S1 H1 s g1 ps _ z hm _ fun xs J Sb Hb sb gb pb hJ hmb => by
    obtain ⟨_, el, hmb⟩ := run_of_lft hmb
    have ec := cmp_all (μ := μ) (t := fun _ => true) (f := f) xs sb
    rw [filter_T] at ec
    exact lc_go (mt := fun x k => k true) (me := fun x k => k (f x)) (g1.tr gb) pb hJ (grd_of el) ho ht hw (fun _ _ _ _ _ _ => fun S1 H1 s g ps k z hm Q q => q true S1 H1 s (Gm.rf g.i) ps hm) he hP ec fun x us S2 H2 g2 p2 n e n2 m2 a2 => by
      have n1 : H1 x = none := by
        cases e : H1 x with
        | none => rfl
        | some u => obtain ⟨u', e'⟩ := gb.t x u e; rw [n] at e'; cases e'
      exact q _ x us S2 H2 sb (gb.tr g2) p2 n1 e n2 m2 a2 hmb
end
end Wk
set_option Elab.async false
set_option maxRecDepth 100000
set_option maxHeartbeats 4000000
set_option linter.all false
/-! W3: defs whose callers show nothing (guards known), promises by mirrors, calls -/
namespace Wk
open PySem L2
open PyProof.Rows hiding St

/-- a def keeps its promise wherever no repr is under way -/
structure FnG (P : Program) (w : World) (K : PySem.W.Frag) (mg : Str → Option Value) (base : Heap) (CX : CXT) (k : Nat) (f : Addr) (fd : FuncData) (ps : List Str) (sp : Sp) : Prop where
  len : ∀ vs H Q E, sp vs H Q E → vs.length = ps.length
  run : ∀ (A : Around) (outer : List Env) (s : Shared) (H : Hp) (args : Args) (us : List Value) (vs : List V) (Q : VK) (E : XK),
    Room k A → A.guards = some [] → Env0 P w K mg base A outer s H → BindsTo s fd args (ps.zip us) → Vals vs us → sp vs H Q E →
    codeAny (model P w) A (.call (.ref f) args) (CR CX outer P w H s Q E) s
theorem FnG.up {P : Program} {w : World} {K : PySem.W.Frag} {mg : Str → Option Value} {base : Heap} {CX : CXT} {j k : Nat} {f : Addr} {fd : FuncData} {ps : List Str} {sp : Sp}
    (F : FnG P w K mg base CX j f fd ps sp) (h : j ≤ k) : FnG P w K mg base CX k f fd ps sp :=
  ⟨F.len, fun A o s H a us vs Q E hr => F.run A o s H a us vs Q E (hr.mono h)⟩
section
variable {P : Program} {w : World} {K : PySem.W.Frag} {mg : Str → Option Value} {base : Heap}
/-- a def by its body -/
theorem okG {CX : CXT} {x qual : Str} {st : Stmt} {f : Addr} {fd : FuncData} {N ps : List Str} {k : Nat} {sp : Sp} (F : Fun K x qual st f fd) (Sc : FnScope N ps (defScope st))
    (len : ∀ vs H Q E, sp vs H Q E → vs.length = ps.length)
    (body : ∀ (cdv : Value) (A : Around) (outer : List Env) (s : Shared) (H : Hp) (vs : List V) (Q : VK) (E : XK),
      Room k (A.deeper (envOfC qual (defScope st) s.heap.objs.size f cdv)) → A.guards = some [] → sp vs H Q E →
      ∃ t, PSs (cxOf CX P w K mg base N qual (defScope st) f cdv A outer s H E) (defBody st) t ∧ t { nx := fun _ H' => Q .non H', rt := Q } (start N vs) H) :
    FnG P w K mg base CX (k + 1) f fd ps sp := by
  obtain ⟨oc, od, kV, doc, pm, an, cdv, ct, osl, rfl, lk, hcd⟩ := F.ex
  constructor
  · exact len
  intro A outer s H args us vs Q E room gd e0 hb rv hsp
  have inK : K.In s.heap := e0.mod.kin.keeps (fun b o e => (e0.bs b o e).1)
  have noLim : s.heap.NoLimit := e0.mod.nolimit.keeps (fun b o e => (e0.bs b o e).1)
  have kinds : ∀ y ∈ ps.zip us, (defScope st).names.lookup y.1 = some .local ∨
      ((defScope st).names.lookup y.1 = some .cell ∧ ((cellsFrom (s.heap.objs.size + 1) (defScope st).names []).lookup y.1).isSome = true) := by
    rintro ⟨nm, vl⟩ hy
    cases Sc.par nm (List.of_mem_zip hy).1 with
    | inl q => exact Or.inl q
    | inr q => exact Or.inr ⟨q, PySem.W.cellsFrom_some _ _ _ (Or.inl q)⟩
  apply codeAny_call_function room.depth (inK _ _ lk) rfl Sc.co Sc.gen rfl (PySem.W.codeRec_of inK hcd)
  apply hb
  apply wpAny_newFunctionEnv_cells Sc.kind kinds
  intro env he s1 x
  subst he
  constructor
  · exact noLim.keeps x.toInCall.keep
  apply codeAny_func
  obtain ⟨t, ht, hq⟩ := body cdv A outer s H vs Q E (room.deeper _) gd hsp
  have I0 := inv_start (CX := CX) (E := E) (cd := cdv) (f := f) (qual := qual) Sc room.hd e0 (len _ _ _ _ hsp) rv x
  refine wpAny_mono (ht.run [] s1 (start N vs) H _ I0 hq) ?_ (fun e s' hs => hs)
  intro fl s' hs
  cases fl with
  | ret u =>
    obtain ⟨v, σ', H', J, r1, q⟩ := hs
    exact ⟨v, H', J.os, J.bare, J.base, J.hok, r1, q⟩
  | next =>
    obtain ⟨σ', H', J, q⟩ := hs
    exact ⟨V.non, H', J.os, J.bare, J.base, J.hok, rfl, q⟩
  | brk =>
    obtain ⟨σ', H', J, q⟩ := hs
    exact q.elim
  | cont =>
    obtain ⟨σ', H', J, q⟩ := hs
    exact q.elim
/-- .. that lets nothing out -/
theorem okG0 {x qual : Str} {st : Stmt} {f : Addr} {fd : FuncData} {N ps : List Str} {k : Nat} {sp : Sp} (F : Fun K x qual st f fd) (Sc : FnScope N ps (defScope st))
    (len : ∀ vs H Q E, sp vs H Q E → vs.length = ps.length)
    (body : ∀ (cdv : Value) (A : Around) (outer : List Env) (s : Shared) (H : Hp) (vs : List V) (Q : VK) (E : XK),
      Room k (A.deeper (envOfC qual (defScope st) s.heap.objs.size f cdv)) → A.guards = some [] → sp vs H Q E →
      ∃ t, PSs (cxOf CX0 P w K mg base N qual (defScope st) f cdv A outer s H E).nox (defBody st) t ∧ t { nx := fun _ H' => Q .non H', rt := Q } (start N vs) H) :
    FnG P w K mg base CX0 (k + 1) f fd ps sp := okG F Sc len fun cdv A outer s H vs Q E hr gd h => by
  obtain ⟨t, h1, h2⟩ := body cdv A outer s H vs Q E hr gd h
  exact ⟨t, h1.nox, h2⟩
end

/-! ### calls -/
section
variable {X : Cx} {CX : CXT} {k n : Nat} {f : Addr} {fd : FuncData} {ps ks : List Str} {sp : Sp} {E : XK} {x : Str} {p pos : Pos} {e : Expr} {es : List Expr} {kws : List Keyword} {t tk : TA}
/-- what a callee's run gives to its caller -/
theorem end_G {pins : List (Addr × Obj)} {σ : St} {H : Hp} {s s' : Shared} {Q : VK} {r : Result} (hx : Passes CX X E) (I : Inv X pins σ H s) (h : CR CX X.stack X.prog X.w H s Q E r s') :
    match r with | .ok (.ret u) => EP X pins σ Q u s' | .ok _ => False | .error e => X.xe e s' := by
  match r, h with
  | .ok (.ret u), h => exact I.after h
  | .error e, h => exact hx pins σ H s e s' I h
theorem run_G {pins : List (Addr × Obj)} {σ : St} {H : Hp} {s : Shared} {Q : VK} {us : List Value} {vs : List V} (F : FnG X.prog X.w X.K X.mg X.base CX k f fd ps sp) (hr : Room k X.A) (gd : X.A.guards = some [])
    (hb : Binds X.K fd ps []) (hx : Passes CX X E) (I : Inv X pins σ H s) (r : Vals vs us) (h : sp vs H Q E) : wpAny (model X.prog X.w) X.A (call (.ref f) us) (EP X pins σ Q) X.xe s := by
  have hl : (us ++ []).length = ps.length := by
    rw [List.append_nil, ← r.length]
    exact F.len _ _ _ _ h
  have hb' := hb s us I.kIn hl
  rw [List.append_nil] at hb'
  refine wpAny_call (codeAny_mono (F.run X.A X.stack s H ⟨us, []⟩ us vs Q E hr gd I.env0 hb' r h) fun res s' hq => ?_)
  have q := end_G hx I hq
  cases res with
  | error er => exact q
  | ok fl => cases fl <;> first | exact q | exact q.elim
theorem pe_cG (F : FnG X.prog X.w X.K X.mg X.base CX k f fd ps sp) (hr : Room k X.A) (gd : X.A.guards = some []) (hg : Gl X x) (hm : X.mg x = some (.ref f)) (hk : PySem.W.keepIn X.K (.ref f) = true) (hb : Binds X.K fd ps []) (hx : Passes CX X E)
    (ha : PA X (e :: es) t) (hdb : (x == ("__debug__" : Str)) = false := by decide) (he : starEach (e :: es) X.env = (false, eval e X.env) :: starEach es X.env := by rfl) (hpl : (backTo pos (starEach es X.env)).any (·.1) = false := by rfl) :
    PE X (.Call (.Name x p) (e :: es) [] pos) (tCall sp [] E t) := by
  constructor
  intro pins s σ H Q I h
  apply wpAny_Call_Name_kw
  apply ld_glob I hg hm _ hdb
  apply PySem.W.callWith_K (h₀ := X.base) I.ok.mod.kin hk _ he hpl
  refine thn (ha.run pos pins s σ H _ I h) ?_
  rintro us s1 ⟨vs, H1, I1, r, q⟩
  refine ⟨I1.kIn, run_G F hr gd hb hx I1 r ?_⟩
  rw [List.append_nil] at q
  exact q
theorem pe_cG0 (F : FnG X.prog X.w X.K X.mg X.base CX k f fd ps sp) (hr : Room k X.A) (gd : X.A.guards = some []) (hg : Gl X x) (hm : X.mg x = some (.ref f)) (hk : PySem.W.keepIn X.K (.ref f) = true) (hb : Binds X.K fd ps []) (hx : Passes CX X E)
    (hdb : (x == ("__debug__" : Str)) = false := by decide) : PE X (.Call (.Name x p) [] [] pos) (tCall sp [] E tNil) := by
  constructor
  intro pins s σ H Q I h
  apply wpAny_Call_Name_kw
  apply ld_glob I hg hm _ hdb
  apply PySem.W.callWith_K0 I.kIn hk
  exact run_G (us := []) (vs := []) F hr gd hb hx I .nil h
theorem pick_vals {vs : List V} {us : List Value} (r : Vals vs us) : ∀ ix : List Nat, Vals (pick ix vs) (pick ix us)
  | [] => .nil
  | i :: ix => by
    have h := pick_vals r ix
    unfold pick at h ⊢
    rw [List.filterMap_cons, List.filterMap_cons]
    cases e : vs[i]? with
    | none =>
      rw [r.none_of e]
      exact h
    | some v =>
      obtain ⟨u, e2, r2⟩ := r.get e
      rw [e2]
      exact .cons r2 h
/-- how names are bound where some are given by keywords: n by place, those of ks by name; ix tells the parameters' order -/
def KB (K : PySem.W.Frag) (fd : FuncData) (ps : List Str) (n : Nat) (ks : List Str) (ix : List Nat) : Prop :=
  ∀ (s : Shared) (us ws : List Value), K.In s.heap → us.length = n → ws.length = ks.length → BindsTo s fd ⟨us, ks.zip ws⟩ (ps.zip (pick ix (us ++ ws)))
def tCallG (n m : Nat) (ix : List Nat) (sp : Sp) (E : XK) (t tk : TA) : TE := fun σ H Q => t σ H fun vs H1 => tk σ H1 fun zs H2 => vs.length = n ∧ zs.length = m ∧ sp (pick ix (vs ++ zs)) H2 Q E
theorem run_Gk {pins : List (Addr × Obj)} {σ : St} {H : Hp} {s : Shared} {Q : VK} {ix : List Nat} {us ws : List Value} {vs zs : List V} (F : FnG X.prog X.w X.K X.mg X.base CX k f fd ps sp) (hr : Room k X.A) (gd : X.A.guards = some [])
    (hb : KB X.K fd ps n ks ix) (hx : Passes CX X E) (I : Inv X pins σ H s) (r : Vals vs us) (rz : Vals zs ws) (l1 : vs.length = n) (l2 : zs.length = ks.length) (h : sp (pick ix (vs ++ zs)) H Q E) :
    wpAny (model X.prog X.w) X.A (call (.ref f) us (ks.zip ws)) (EP X pins σ Q) X.xe s := by
  have hb' := hb s us ws I.kIn (r.length.symm.trans l1) (rz.length.symm.trans l2)
  refine wpAny_call (codeAny_mono (F.run X.A X.stack s H ⟨us, ks.zip ws⟩ _ _ Q E hr gd I.env0 hb' (pick_vals (r.append rz) ix) h) fun res s' hq => ?_)
  have q := end_G hx I hq
  cases res with
  | error er => exact q
  | ok fl => cases fl <;> first | exact q | exact q.elim
theorem pe_cGK {ix : List Nat} (F : FnG X.prog X.w X.K X.mg X.base CX k f fd ps sp) (hr : Room k X.A) (gd : X.A.guards = some []) (hg : Gl X x) (hm : X.mg x = some (.ref f)) (hk : PySem.W.keepIn X.K (.ref f) = true) (hb : KB X.K fd ps n ks ix) (hx : Passes CX X E)
    (ha : PA X (e :: es) t) (hkw : PK X kws tk) (hall : (backToKw pos (keywordEach kws X.env)).all (·.1.isSome) = true := by rfl) (hks : (backToKw pos (keywordEach kws X.env)).filterMap (·.1) = ks := by rfl)
    (hdb : (x == ("__debug__" : Str)) = false := by decide) (he : starEach (e :: es) X.env = (false, eval e X.env) :: starEach es X.env := by rfl)
    (hpl : ((backTo pos (starEach (e :: es) X.env)).any (·.1) || (backToKw pos (keywordEach kws X.env)).any (·.1.isNone)) = false := by rfl) :
    PE X (.Call (.Name x p) (e :: es) kws pos) (tCallG n ks.length ix sp E t tk) := by
  constructor
  intro pins s σ H Q I h
  apply wpAny_Call_Name_kw
  apply ld_glob I hg hm _ hdb
  refine PySem.W.callWith_KW (h₀ := X.base) I.ok.mod.kin hk hall (thn (ha.run pos pins s σ H _ I h) ?_) hpl he
  rintro us s1 ⟨vs, H1, I1, r, q⟩
  refine thn (hkw.run pos pins s1 σ H1 _ I1 q) ?_
  rintro ws s2 ⟨zs, H2, I2, rz, l1, l2, q2⟩
  refine ⟨I2.kIn, ?_⟩
  rw [hks]
  exact run_Gk F hr gd hb hx I2 r rz l1 l2 q2
theorem pe_cGK0 {ix : List Nat} (F : FnG X.prog X.w X.K X.mg X.base CX k f fd ps sp) (hr : Room k X.A) (gd : X.A.guards = some []) (hg : Gl X x) (hm : X.mg x = some (.ref f)) (hk : PySem.W.keepIn X.K (.ref f) = true) (hb : KB X.K fd ps 0 ks ix) (hx : Passes CX X E)
    (hkw : PK X kws tk) (hall : (backToKw pos (keywordEach kws X.env)).all (·.1.isSome) = true := by rfl) (hks : (backToKw pos (keywordEach kws X.env)).filterMap (·.1) = ks := by rfl)
    (hdb : (x == ("__debug__" : Str)) = false := by decide)
    (hpl : ((backTo pos (starEach [] X.env)).any (·.1) || (backToKw pos (keywordEach kws X.env)).any (·.1.isNone)) = false := by rfl) :
    PE X (.Call (.Name x p) [] kws pos) (tCallG 0 ks.length ix sp E tNil tk) := by
  constructor
  intro pins s σ H Q I h
  apply wpAny_Call_Name_kw
  apply ld_glob I hg hm _ hdb
  have h' : tk σ H (fun zs H2 => ([] : List V).length = 0 ∧ zs.length = ks.length ∧ sp (pick ix ([] ++ zs)) H2 Q E) := h
  refine PySem.W.callWith_KW0 (h₀ := X.base) I.ok.mod.kin hk hall (thn (hkw.run pos pins s σ H _ I h') ?_) hpl
  rintro ws s2 ⟨zs, H2, I2, rz, l1, l2, q2⟩
  refine ⟨I2.kIn, ?_⟩
  rw [hks]
  exact run_Gk (us := []) (vs := []) F hr gd hb hx I2 .nil rz l1 l2 q2
end

/-! ### promises by mirrors -/
section
variable {μ : Type → Type} {τ : Type} [Mir μ τ] {ν : Type → Type} {υ : Type} [Mir ν υ] {ι α β γ δ ρ : Type} {p : Pt τ} {σ : St} {S H S0 H0 : Hp} {te ta tb : TE} {tt : TT} {K : PySem.W.Frag}
/-- what stays comes back -/
def spV (F : ι → Pt τ) (fm : α → μ ρ) (A : ι → Rq α) (R : Rp ρ) : Sp := fun vs H Q _ => ∃ i a S s r s', Ex S H ∧ PotAt (F i) s S H ∧ A i a vs S ∧ Mir.run (fm a) s = some (r, s') ∧
  ∀ v S' H', Gm (F i).M S H S' H' → PotAt (F i) s' S' H' → R r v S' → Q v H'
/-- a new list comes back -/
def spN (F : ι → Pt τ) (fm : α → μ ρ) (A : ι → Rq α) (R : Rq ρ) : Sp := fun vs H Q _ => ∃ i a S s r s', Ex S H ∧ PotAt (F i) s S H ∧ A i a vs S ∧ Mir.run (fm a) s = some (r, s') ∧
  ∀ q us S' H', Gm (F i).M S H S' H' → PotAt (F i) s' S' H' → H q = none → H' q = some (.lst us) → S' q = none → R r us S' → Q (.ref q) H'
def F0 : Unit → Pt Unit := fun _ => pt0
theorem pot0' {S H : Hp} {s : Unit} : PotAt pt0 s S H := fun _ h => nomatch h
/-- a pure def's call -/
theorem e_call {fm : α → Option ρ} {A : Rq α} {R : Rp ρ} {t : TA} {E : XK} {m : (α → μ β) → μ β} (h : EvA p t σ S H m A) : Ev p (tCall (spV F0 fm (fun _ => A) R) [] E t) σ S H (fun k => m fun a => Mir.lft (fm a) >>= k) R := fun S1 H1 s g ps k z hm Q q =>
  h S1 H1 s g ps _ z hm _ fun a vs S2 H2 s2 g2 p2 r hm2 => by
    obtain ⟨b, e, hm3⟩ := run_of_lft hm2
    refine ⟨(), a, S2, (), b, (), g2.i, pot0', by rw [List.append_nil]; exact r, by show (fm a).map _ = _; rw [e]; rfl, fun v S' H' g3 _ r3 => ?_⟩
    exact q b v S' H' s2 (g2.tr (Gm.up g3)) (p2.go g3) r3 hm3
theorem l_call {fm : α → Option ρ} {A : Rq α} {R : Rq ρ} {t : TA} {E : XK} {m : (α → μ β) → μ β} (h : EvA p t σ S H m A) : EvL p (tCall (spN F0 fm (fun _ => A) R) [] E t) σ S H (fun k => m fun a => Mir.lft (fm a) >>= k) R := fun S1 H1 s g ps k z hm Q q =>
  h S1 H1 s g ps _ z hm _ fun a vs S2 H2 s2 g2 p2 r hm2 => by
    obtain ⟨b, e, hm3⟩ := run_of_lft hm2
    refine ⟨(), a, S2, (), b, (), g2.i, pot0', by rw [List.append_nil]; exact r, by show (fm a).map _ = _; rw [e]; rfl, fun x us S' H' g3 _ n e3 n3 r3 => ?_⟩
    have n1 : H1 x = none := by
      cases e : H1 x with
      | none => rfl
      | some u => obtain ⟨u', e'⟩ := g2.t x u e; rw [n] at e'; cases e'
    exact q b x us S' H' s2 (g2.tr (Gm.up g3)) (p2.go g3) n1 e3 n3 (new_nM p2 n) r3 hm3
/-- a def that changes the lot -/
theorem e_callP {F : ι → Pt τ} {i : ι} {fm : α → μ ρ} {A : ι → Rq α} {R : Rp ρ} {t : TA} {E : XK} {m : (α → μ β) → μ β} (h : EvA (F i) t σ S H m (A i)) : Ev (F i) (tCall (spV F fm A R) [] E t) σ S H (fun k => m fun a => fm a >>= k) R := fun S1 H1 s g ps k z hm Q q =>
  h S1 H1 s g ps _ z hm _ fun a vs S2 H2 s2 g2 p2 r hm2 => by
    obtain ⟨b, s3, e, hm3⟩ := run_of_bind hm2
    refine ⟨i, a, S2, s2, b, s3, g2.i, p2, by rw [List.append_nil]; exact r, e, fun v S' H' g3 p3 r3 => ?_⟩
    exact q b v S' H' s3 (g2.tr g3) p3 r3 hm3
theorem l_callP {F : ι → Pt τ} {i : ι} {fm : α → μ ρ} {A : ι → Rq α} {R : Rq ρ} {t : TA} {E : XK} {m : (α → μ β) → μ β} (h : EvA (F i) t σ S H m (A i)) : EvL (F i) (tCall (spN F fm A R) [] E t) σ S H (fun k => m fun a => fm a >>= k) R := fun S1 H1 s g ps k z hm Q q =>
  h S1 H1 s g ps _ z hm _ fun a vs S2 H2 s2 g2 p2 r hm2 => by
    obtain ⟨b, s3, e, hm3⟩ := run_of_bind hm2
    refine ⟨i, a, S2, s2, b, s3, g2.i, p2, by rw [List.append_nil]; exact r, e, fun x us S' H' g3 p3 n e3 n3 r3 => ?_⟩
    have n1 : H1 x = none := by
      cases e : H1 x with
      | none => rfl
      | some u => obtain ⟨u', e'⟩ := g2.t x u e; rw [n] at e'; cases e'
    exact q b x us S' H' s3 (g2.tr g3) p3 n1 e3 n3 (new_nM p2 n) r3 hm3
/-- by keywords -/
theorem e_callK {n m' : Nat} {ix : List Nat} {fm : α → Option ρ} {A : Rq α} {A1 : Rq γ} {A2 : Rq δ} {R : Rp ρ} {t tk : TA} {E : XK} {m1 : (γ → μ β) → μ β} {m2 : (δ → μ β) → μ β} (π : γ → δ → α) (h1 : EvA p t σ S H m1 A1) (h2 : EvA p tk σ S H m2 A2) [Mo A1]
    (hπ : ∀ a b vs zs S, A1 a vs S → A2 b zs S → vs.length = n ∧ zs.length = m' ∧ A (π a b) (pick ix (vs ++ zs)) S) : Ev p (tCallG n m' ix (spV F0 fm (fun _ => A) R) E t tk) σ S H (fun k => m1 fun a => m2 fun b => Mir.lft (fm (π a b)) >>= k) R := fun S1 H1 s g ps k z hm Q q =>
  h1 S1 H1 s g ps _ z hm _ fun a vs S2 H2 s2 g2 p2 r hm2 => h2 S2 H2 s2 (g.tr g2) p2 _ z hm2 _ fun b zs S3 H3 s3 g3 p3 r3 hm3 => by
    obtain ⟨c, e, hm4⟩ := run_of_lft hm3
    obtain ⟨l1, l2, r4⟩ := hπ a b vs zs S3 (Mo.mo g3.s r) r3
    refine ⟨l1, l2, (), π a b, S3, (), c, (), g3.i, pot0', r4, by show (fm _).map _ = _; rw [e]; rfl, fun v S' H' g4 _ r5 => ?_⟩
    exact q c v S' H' s3 ((g2.tr g3).tr (Gm.up g4)) (p3.go g4) r5 hm4
theorem l_callK {n m' : Nat} {ix : List Nat} {fm : α → Option ρ} {A : Rq α} {A1 : Rq γ} {A2 : Rq δ} {R : Rq ρ} {t tk : TA} {E : XK} {m1 : (γ → μ β) → μ β} {m2 : (δ → μ β) → μ β} (π : γ → δ → α) (h1 : EvA p t σ S H m1 A1) (h2 : EvA p tk σ S H m2 A2) [Mo A1]
    (hπ : ∀ a b vs zs S, A1 a vs S → A2 b zs S → vs.length = n ∧ zs.length = m' ∧ A (π a b) (pick ix (vs ++ zs)) S) : EvL p (tCallG n m' ix (spN F0 fm (fun _ => A) R) E t tk) σ S H (fun k => m1 fun a => m2 fun b => Mir.lft (fm (π a b)) >>= k) R := fun S1 H1 s g ps k z hm Q q =>
  h1 S1 H1 s g ps _ z hm _ fun a vs S2 H2 s2 g2 p2 r hm2 => h2 S2 H2 s2 (g.tr g2) p2 _ z hm2 _ fun b zs S3 H3 s3 g3 p3 r3 hm3 => by
    obtain ⟨c, e, hm4⟩ := run_of_lft hm3
    obtain ⟨l1, l2, r4⟩ := hπ a b vs zs S3 (Mo.mo g3.s r) r3
    refine ⟨l1, l2, (), π a b, S3, (), c, (), g3.i, pot0', r4, by show (fm _).map _ = _; rw [e]; rfl, fun x us S' H' g4 _ n e3 n3 r5 => ?_⟩
    have n1 : H1 x = none := by
      cases e : H1 x with
      | none => rfl
      | some u => obtain ⟨u', e'⟩ := (g2.tr g3).t x u e; rw [n] at e'; cases e'
    exact q c x us S' H' s3 ((g2.tr g3).tr (Gm.up g4)) (p3.go g4) n1 e3 n3 (new_nM p3 n) r5 hm4
end

/-! ### the law's end -/
theorem vals_ints' {vs : List Value} {ns : List Int} (h : IntsAre vs ns) : Vals (ns.map V.int) vs := vals_ints h
/-- the head's goal, from the law's promise: as the layer's own, guards told -/
theorem law_G {P : Program} {w : World} {K : PySem.W.Frag} {mg mb : Str → Option Value} {CX : CXT} {k : Nat} {fa a : Addr} {fd : FuncData} {x : Str} {sp : Sp} {s₁ : Shared} {vs : List Value} {ns : List Int}
    (KX : K.In s₁.heap) (hns : s₁.heap.Ns mainGlobals mg) (hdg : s₁.heap.NoDigits) (hb : s₁.heap.Ns builtinsNs mb) (hbb : ∀ x : Str, x ≠ "__name__" → mb x = bootBuiltins x) (hlim : s₁.heap.NoLimit) (hg : s₁.gens = #[])
    (ha : s₁.heap.get? a = some { cls := .type "list", data := .seq vs.toArray }) (hi : IntsAre vs ns) (hl : ns.length ≤ sizeLine) (hr : Room k callerA)
    (F : ∀ base : Heap, K.In base → base.Ns mainGlobals mg → base.NoDigits → FnG P w K mg base CX k fa fd [x] sp) (hbind : ∀ (s : Shared) (u : Value), BindsTo s fd ⟨[u], []⟩ [(x, u)])
    (hsp : ∀ H : Hp, SqL K H a (ns.map V.int) → sp [.ref a] H (fun v _ => v = .bl true) fun _ _ _ => False)
    (hCX : ∀ H e s', CX [] H s₁ (fun _ _ _ => False) e s' → False) :
    codeAny (model P w) callerA (.call (.ref fa) ⟨[.ref a], []⟩) (fun r s' => r = .ok (.ret (.bool true)) ∧ OldK s₁.heap s'.heap ∧ s'.os = s₁.os ∧ AllBare s'.gens) s₁ := by
  have rv := vals_ints hi
  have lenV := hi.length
  -- a heap that tracks at most the script
  let ob : Obj := { cls := .type "list", data := .seq vs.toArray }
  have go : ∀ H : Hp, (∀ b u, H b = some u → b = a ∧ u = .frz ob (.lst (ns.map V.int))) → SqL K H a (ns.map V.int) → (H a ≠ none → K.lookup a = none) →
      codeAny (model P w) callerA (.call (.ref fa) ⟨[.ref a], []⟩) (fun r s' => r = .ok (.ret (.bool true)) ∧ OldK s₁.heap s'.heap ∧ s'.os = s₁.os ∧ AllBare s'.gens) s₁ := by
    intro H only hS hK
    have ok : HOk P w H s₁.heap := by
      intro b u e
      obtain ⟨e1, e2⟩ := only b u e
      subst e1 e2
      exact ⟨ha, by rw [List.length_map]; exact hl, vs, 0, rv, ha⟩
    have free : ∀ {b : Addr} {o : Obj} {es : Array DictEntry} {ep : Nat}, s₁.heap.get? b = some o → o.data = .dict es ep → H b = none := by
      intro b o es ep e d
      cases q : H b with
      | none => rfl
      | some u =>
        obtain ⟨e1, _⟩ := only b u q
        subst e1
        rw [ha] at e
        cases e
        exact nomatch d
    have ns' : ∀ {b : Addr} {m : Str → Option Value}, s₁.heap.Ns b m → (hidT s₁.heap H).Ns b m := by
      rintro b m ⟨o, es, ep, e, d, r⟩
      exact ⟨o, es, ep, hidT_get e (free e d), d, r⟩
    have inB : K.In (hidT s₁.heap H) := by
      intro b o e
      apply hidT_get (KX b o e)
      cases q : H b with
      | none => rfl
      | some u =>
        obtain ⟨e1, _⟩ := only b u q
        subst e1
        rw [hK (by rw [q]; simp)] at e
        cases e
    have md : Mod K mg (hidT s₁.heap H) := ⟨inB, ns' hns, ⟨mb, ns' hb, hbb⟩, by obtain ⟨mc, h1, h2⟩ := hlim; exact ⟨mc, ns' h1, h2⟩⟩
    have none_in : ∀ b : Addr, b ∉ frs [] := fun b z => nomatch (show b ∈ ([] : List Addr) from z)
    have e0 : Env0 P w K mg (hidT s₁.heap H) callerA [] s₁ H :=
      ⟨rfl, md, fun b o e => of_hidT e, Nat.le_of_eq (hidT_size _ _), trivial, fun b hb => absurd hb (none_in b), ok, .of_eq hg⟩
    have run := (F _ inB (ns' hns) (let ⟨mc, h1, h2⟩ := hdg; ⟨mc, ns' h1, h2⟩)).run callerA [] s₁ H ⟨[.ref a], []⟩ [.ref a] [.ref a] _ _ hr rfl e0 (hbind s₁ (.ref a)) (.cons rfl .nil) (hsp H hS)
    refine codeAny_mono run ?_
    intro r s' h
    match r, h with
    | .error e, h => exact (hCX H e s' h).elim
    | .ok (.ret u), h =>
      obtain ⟨v, H', os, bare, un, ok', r', q⟩ := h
      have q' : v = .bl true := q
      subst q'
      have ru : u = Value.bool true := r'
      subst ru
      refine ⟨rfl, OldK.of_keep ?_, os, bare⟩
      intro b o e
      cases q : H b with
      | none => exact un.keep b o e q (none_in b) (by simp)
      | some u =>
        obtain ⟨e1, e2⟩ := only b u q
        subst e1 e2
        obtain ⟨g1, _⟩ := ok' _ _ (un.frzs _ _ _ q)
        rw [ha] at e
        cases e
        exact g1
  cases hk : K.lookup a with
  | some o =>
    have e := KX a o hk
    rw [ha] at e
    cases e
    exact go (fun _ => none) (fun _ _ z => nomatch z) (.inr ⟨_, vs.toArray, _, hk, rfl, rfl, rfl, by rw [List.size_toArray, lenV]; exact hl, by simpa using rv⟩) (fun z => absurd rfl z)
  | none =>
    refine go (upd (fun _ => none) a (.frz ob (.lst (ns.map V.int)))) ?_ (.inl (.inr ⟨ob, upd_same⟩)) (fun _ => hk)
    intro b u z
    by_cases hb : b = a
    · subst hb
      rw [upd_same] at z
      exact ⟨rfl, (Option.some.inj z).symm⟩
    · rw [upd_ne hb] at z
      cases z
theorem walk_G {l : PySem.W.OpenLaw} {n k : Nat} {q : Program} {loose : List Str} {XP : (Str → Option Value) → Heap → Prop} {YP : World → Heap → Prop} {d : DefRec} {K : Params → PySem.W.Frag} {CX : CXT} {sp : PySem.W.Frag → Sp} {x : Str}
    (hn : l.most = some n) (hn2 : n ≤ sizeLine) (hdf : d.params.defaults = []) (hr : Room k callerA)
    (hY : ∀ (w : World) (h : Heap), YP w h → (K w.params).In h)
    (F : ∀ (w : World) (mg : Str → Option Value) (fa : Addr) (h : Heap), (K w.params).In h → h.Ns mainGlobals mg → mg d.name = some (.ref fa) →
      ∃ fd : FuncData, (∀ (s : Shared) (u : Value), BindsTo s fd ⟨[u], []⟩ [(x, u)]) ∧
        ∀ base : Heap, (K w.params).In base → base.Ns mainGlobals mg → base.NoDigits → FnG l.prog w (K w.params) mg base CX k fa fd [x] (sp (K w.params)))
    (hsp : ∀ (K : PySem.W.Frag) (H : Hp) (a : Addr) (ns : List Int), ns.length ≤ n → (∀ i ∈ ns, Builtin.Int.intBits i ≤ 1048576) → SqL K H a (ns.map V.int) → sp K [.ref a] H (fun v _ => v = .bl true) fun _ _ _ => False)
    (hCX : ∀ (H : Hp) (s : Shared) (e : Value) (s' : Shared), CX [] H s (fun _ _ _ => False) e s' → False) :
    PySem.W.WalkO q loose XP YP l.row.toRowW d [] (fun f vs => PySem.call f vs) := by
  refine Att.attach_callB hn hdf ?_
  intro w s₀ s₁ mg mb fa o pm cd doc a vs ns G Y ho hd hcd hmg hobj hints hlen hbits hg
  have KX := hY w _ Y
  obtain ⟨fd, hb, hF⟩ := F w mg fa _ KX G.T.g hmg
  exact law_G KX G.T.g G.T.nodigits G.T.b G.T.builtins G.T.nolimit hg hobj hints (Nat.le_trans hlen hn2) hr hF hb (fun H hS => hsp _ H a ns hlen hbits hS) (fun H e s' => hCX H s₁ e s')
end Wk
set_option Elab.async false
set_option maxRecDepth 100000
set_option maxHeartbeats 4000000
set_option linter.all false
/-! W4: operators, built-ins, repr -/
namespace Wk
open PySem L2
open PyProof.Rows hiding St
section
variable {μ : Type → Type} {τ : Type} [Mir μ τ] {α β γ δ ρ : Type} {p : Pt τ} {σ : St} {S H S0 H0 : Hp} {te ta tb : TE} {tt : TT} {K : PySem.W.Frag}

/-! ### whole numbers -/
theorem e_add {mA mB : (Int → μ β) → μ β} (ha : Ev p ta σ S H mA rI) (hb : Ev p tb σ S H mB rI) : Ev p (tOp (rI0 fun i j => .int (i + j)) ta tb) σ S H (fun k => mA fun i => mB fun j => k (i + j)) rI := e_op0 (D := fun i j => i + j) ha hb fun _ _ _ => rfl
theorem e_sub {mA mB : (Int → μ β) → μ β} (ha : Ev p ta σ S H mA rI) (hb : Ev p tb σ S H mB rI) : Ev p (tOp (rI0 fun i j => .int (i - j)) ta tb) σ S H (fun k => mA fun i => mB fun j => k (i - j)) rI := e_op0 (D := fun i j => i - j) ha hb fun _ _ _ => rfl
theorem e_mul {mA mB : (Int → μ β) → μ β} (ha : Ev p ta σ S H mA rI) (hb : Ev p tb σ S H mB rI) : Ev p (tOp (L2.rI CMulX fun i j => .int (i * j)) ta tb) σ S H (fun k => mA fun i => mB fun j => Mir.lft (grd (Sm i ∧ Sm j)) >>= fun _ => k (i * j)) rI :=
  e_opC (c := fun i j => Sm i ∧ Sm j) (D := fun i j => i * j) ha hb (fun _ _ h => Sm.mul h) fun _ _ _ _ => rfl
def Dv (j : Int) : Prop := 0 < j ∧ j.natAbs.log2 < 9000
instance (j : Int) : Decidable (Dv j) := inferInstanceAs (Decidable (_ ∧ _))
theorem e_fdiv {mA mB : (Int → μ β) → μ β} (ha : Ev p ta σ S H mA rI) (hb : Ev p tb σ S H mB rI) : Ev p (tOp (L2.rI CDivW fun i j => .int (i / j)) ta tb) σ S H (fun k => mA fun i => mB fun j => Mir.lft (grd (Dv j)) >>= fun _ => k (i / j)) rI :=
  e_opC (c := fun _ j => Dv j) (D := fun i j => i / j) ha hb (fun _ _ h => h) fun _ _ _ _ => rfl
theorem e_mod {mA mB : (Int → μ β) → μ β} (ha : Ev p ta σ S H mA rI) (hb : Ev p tb σ S H mB rI) : Ev p (tOp (L2.rI (fun _ j => 0 < j) fun i j => .int (i % j)) ta tb) σ S H (fun k => mA fun i => mB fun j => Mir.lft (grd (0 < j)) >>= fun _ => k (i % j)) rI :=
  e_opC (c := fun _ j => 0 < j) (D := fun i j => i % j) ha hb (fun _ _ h => h) fun _ _ _ _ => rfl
def Pw (i j : Int) : Prop := 0 ≤ j ∧ j ≤ 1000000 ∧ i.natAbs < 18446744073709551616
instance (i j : Int) : Decidable (Pw i j) := inferInstanceAs (Decidable (_ ∧ _))
theorem e_pow {mA mB : (Int → μ β) → μ β} (ha : Ev p ta σ S H mA rI) (hb : Ev p tb σ S H mB rI) : Ev p (tOp (L2.rI CPow fun i j => .int (i ^ j.toNat)) ta tb) σ S H (fun k => mA fun i => mB fun j => Mir.lft (grd (Pw i j)) >>= fun _ => k (i ^ j.toNat)) rI :=
  e_opC (c := Pw) (D := fun i j => i ^ j.toNat) ha hb (fun _ _ h => ⟨h.1, h.2.1, by have := h.2.2; omega⟩) fun _ _ _ _ => rfl
def Sl (i j : Int) : Prop := Sm i ∧ 0 ≤ j ∧ j ≤ 60000000
instance (i j : Int) : Decidable (Sl i j) := inferInstanceAs (Decidable (_ ∧ _))
theorem e_shl {mA mB : (Int → μ β) → μ β} (ha : Ev p ta σ S H mA rI) (hb : Ev p tb σ S H mB rI) : Ev p (tOp (L2.rI CShl fun i j => .int (i * 2 ^ j.toNat)) ta tb) σ S H (fun k => mA fun i => mB fun j => Mir.lft (grd (Sl i j)) >>= fun _ => k (i * 2 ^ j.toNat)) rI :=
  e_opC (c := Sl) (D := fun i j => i * 2 ^ j.toNat) ha hb (fun i _ h => ⟨h.2.1, by have := bits_log i; have := h.1; unfold Sm at this; have := h.2.2; omega⟩) fun _ _ _ _ => rfl
theorem e_shr {mA mB : (Int → μ β) → μ β} (ha : Ev p ta σ S H mA rI) (hb : Ev p tb σ S H mB rI) : Ev p (tOp (L2.rI (fun _ j => 0 ≤ j) fun i j => .int (i / 2 ^ j.toNat)) ta tb) σ S H (fun k => mA fun i => mB fun j => Mir.lft (grd (0 ≤ j)) >>= fun _ => k (i / 2 ^ j.toNat)) rI :=
  e_opC (c := fun _ j => 0 ≤ j) (D := fun i j => i / 2 ^ j.toNat) ha hb (fun _ _ h => h) fun _ _ _ _ => rfl
theorem e_band {mA mB : (Int → μ β) → μ β} (ha : Ev p ta σ S H mA rI) (hb : Ev p tb σ S H mB rI) : Ev p (tOp (rI0 fun i j => .int (Builtin.bitAnd i j)) ta tb) σ S H (fun k => mA fun i => mB fun j => k (Builtin.bitAnd i j)) rI := e_op0 (D := fun i j => Builtin.bitAnd i j) ha hb fun _ _ _ => rfl
theorem e_bor {mA mB : (Int → μ β) → μ β} (ha : Ev p ta σ S H mA rI) (hb : Ev p tb σ S H mB rI) : Ev p (tOp (rI0 fun i j => .int (Builtin.bitOr i j)) ta tb) σ S H (fun k => mA fun i => mB fun j => k (Builtin.bitOr i j)) rI := e_op0 (D := fun i j => Builtin.bitOr i j) ha hb fun _ _ _ => rfl
theorem e_neg {m : (Int → μ β) → μ β} (h : Ev p te σ S H m rI) : Ev p (tUn (L2.rU fun i => .int (-i)) te) σ S H (fun k => m fun i => k (-i)) rI := fun S1 H1 s g ps k z hm Q q =>
  h S1 H1 s g ps _ z hm _ fun i v S2 H2 s2 g2 p2 r hm2 => ⟨i, r, q _ _ S2 H2 s2 g2 p2 rfl hm2⟩
theorem e_lt {mA mB : (Int → μ β) → μ β} (ha : Ev p ta σ S H mA rI) (hb : Ev p tb σ S H mB rI) : Ev p (tOp (rI0 fun i j => .bl (decide (i < j))) ta tb) σ S H (fun k => mA fun i => mB fun j => k (decide (i < j))) rB := e_op0 (D := fun i j => decide (i < j)) ha hb fun _ _ _ => rfl
theorem e_le {mA mB : (Int → μ β) → μ β} (ha : Ev p ta σ S H mA rI) (hb : Ev p tb σ S H mB rI) : Ev p (tOp (rI0 fun i j => .bl (decide (i ≤ j))) ta tb) σ S H (fun k => mA fun i => mB fun j => k (decide (i ≤ j))) rB := e_op0 (D := fun i j => decide (i ≤ j)) ha hb fun _ _ _ => rfl
theorem e_gt {mA mB : (Int → μ β) → μ β} (ha : Ev p ta σ S H mA rI) (hb : Ev p tb σ S H mB rI) : Ev p (tOp (rI0 fun i j => .bl (decide (j < i))) ta tb) σ S H (fun k => mA fun i => mB fun j => k (decide (j < i))) rB := e_op0 (D := fun i j => decide (j < i)) ha hb fun _ _ _ => rfl
theorem e_ge {mA mB : (Int → μ β) → μ β} (ha : Ev p ta σ S H mA rI) (hb : Ev p tb σ S H mB rI) : Ev p (tOp (rI0 fun i j => .bl (decide (j ≤ i))) ta tb) σ S H (fun k => mA fun i => mB fun j => k (decide (j ≤ i))) rB := e_op0 (D := fun i j => decide (j ≤ i)) ha hb fun _ _ _ => rfl

/-! ### flat values that are equal -/
class Fl {α : Type} (R : Rp α) where
  c : α → V
  is : ∀ a v S, R a v S ↔ v = c a
  sc : ∀ a b, scal (c a) (c b) = true
  inj : ∀ a b, c a = c b → a = b
instance : Fl rI := ⟨V.int, fun _ _ _ => Iff.rfl, fun _ _ => rfl, fun _ _ h => V.int.inj h⟩
instance : Fl rB := ⟨V.bl, fun _ _ _ => Iff.rfl, fun _ _ => rfl, fun _ _ h => V.bl.inj h⟩
instance : Fl rS := ⟨V.str, fun _ _ _ => Iff.rfl, fun _ _ => rfl, fun _ _ h => V.str.inj h⟩
theorem Fl.dec {R : Rp α} [Fl R] [DecidableEq α] (a b : α) : decide (Fl.c R a = Fl.c R b) = decide (a = b) := by
  by_cases h : a = b
  · subst h; simp
  · rw [decide_eq_false h, decide_eq_false fun e => h (Fl.inj _ _ e)]
theorem e_eq {R : Rp α} [Fl R] [DecidableEq α] {mA mB : (α → μ β) → μ β} (ha : Ev p ta σ S H mA R) (hb : Ev p tb σ S H mB R) : Ev p (tOp rEq ta tb) σ S H (fun k => mA fun i => mB fun j => k (decide (i = j))) rB := fun S1 H1 s g ps k z hm Q q =>
  ha S1 H1 s g ps _ z hm _ fun i v S2 H2 s2 g2 p2 r2 hm2 => hb S2 H2 s2 (g.tr g2) p2 _ z hm2 _ fun j u S3 H3 s3 g3 p3 r3 hm3 => by
    have e1 := (Fl.is i v S2).mp r2
    have e2 := (Fl.is j u S3).mp r3
    subst e1
    subst e2
    exact ⟨Fl.sc i j, q _ _ S3 H3 s3 (g2.tr g3) p3 (by show V.bl _ = V.bl _; rw [Fl.dec]) hm3⟩
theorem e_ne {R : Rp α} [Fl R] [DecidableEq α] {mA mB : (α → μ β) → μ β} (ha : Ev p ta σ S H mA R) (hb : Ev p tb σ S H mB R) : Ev p (tOp rNe ta tb) σ S H (fun k => mA fun i => mB fun j => k (!decide (i = j))) rB := fun S1 H1 s g ps k z hm Q q =>
  ha S1 H1 s g ps _ z hm _ fun i v S2 H2 s2 g2 p2 r2 hm2 => hb S2 H2 s2 (g.tr g2) p2 _ z hm2 _ fun j u S3 H3 s3 g3 p3 r3 hm3 => by
    have e1 := (Fl.is i v S2).mp r2
    have e2 := (Fl.is j u S3).mp r3
    subst e1
    subst e2
    exact ⟨Fl.sc i j, q _ _ S3 H3 s3 (g2.tr g3) p3 (by show V.bl _ = V.bl _; rw [Fl.dec]) hm3⟩
/-- is None, is not None of what may be None -/
class NN {α : Type} (R : Rp α) : Prop where
  nn : ∀ a v S, R a v S → v ≠ .non
instance : NN rI := ⟨fun _ _ _ h e => by rw [show _ = V.int _ from h] at e; cases e⟩
instance : NN rB := ⟨fun _ _ _ h e => by rw [show _ = V.bl _ from h] at e; cases e⟩
instance : NN rS := ⟨fun _ _ _ h e => by rw [show _ = V.str _ from h] at e; cases e⟩
instance {A : Rq α} : NN (rT K A) := ⟨fun _ _ _ ⟨_, _, h, _⟩ e => by rw [h] at e; cases e⟩
instance {A : Rq α} : NN (rL A) := ⟨fun _ _ _ ⟨_, _, h, _⟩ e => by rw [h] at e; cases e⟩
theorem isN_dec {R : Rp α} [NN R] {a : Option α} {v : V} (r : rO R a v S) : decide (v = .non) = a.isNone := by
  cases a with
  | none => rw [show v = .non from r]; rfl
  | some x => rw [decide_eq_false (NN.nn x v S r)]; rfl
theorem e_isN {R : Rp α} [NN R] {m : (Option α → μ β) → μ β} (h : Ev p te σ S H m (rO R)) : Ev p (tOp (fun x y H Q => y = .non ∧ Q (.bl (decide (x = .non))) H) te (tC .non)) σ S H (fun k => m fun a => k a.isNone) rB := fun S1 H1 s g ps k z hm Q q =>
  h S1 H1 s g ps _ z hm _ fun a v S2 H2 s2 g2 p2 r hm2 => ⟨rfl, q _ _ S2 H2 s2 g2 p2 (by show V.bl _ = V.bl _; rw [isN_dec r]) hm2⟩
theorem e_notN {R : Rp α} [NN R] {m : (Option α → μ β) → μ β} (h : Ev p te σ S H m (rO R)) : Ev p (tOp (fun x y H Q => y = .non ∧ Q (.bl (!decide (x = .non))) H) te (tC .non)) σ S H (fun k => m fun a => k (!a.isNone)) rB := fun S1 H1 s g ps k z hm Q q =>
  h S1 H1 s g ps _ z hm _ fun a v S2 H2 s2 g2 p2 r hm2 => ⟨rfl, q _ _ S2 H2 s2 g2 p2 (by show V.bl _ = V.bl _; rw [isN_dec r]) hm2⟩

/-! ### places -/
theorem All.atI {R : Rp α} {xs : List α} {vs : List V} {i : Int} {x : α} (h : All R S xs vs) (e : L2.atI xs i = some x) : ∃ v, L2.atI vs i = some v ∧ R x v S := by
  unfold L2.atI at e ⊢
  rw [h.len] at e
  cases q : ixN vs.length i with
  | none => rw [q] at e; cases e
  | some j =>
    rw [q] at e
    obtain ⟨v, h1, h2⟩ := h.get (i := j) (x := x) e
    exact ⟨v, h1, h2⟩
theorem e_ixL {R : Rp α} [Mo R] {mA : (List α → μ β) → μ β} {mB : (Int → μ β) → μ β} (ha : EvR p ta σ S H mA (aAll R)) (hb : Ev p tb σ S H mB rI) : Ev p (tOp (rIxL K) ta tb) σ S H (fun k => mA fun xs => mB fun i => Mir.lft (L2.atI xs i) >>= k) R := fun S1 H1 s g ps k z hm Q q =>
  ha S1 H1 s g ps _ z hm _ fun xs x vs S2 H2 s2 g2 p2 e2 m2 r2 hm2 => hb S2 H2 s2 (g.tr g2) p2 _ z hm2 _ fun i u S3 H3 s3 g3 p3 r3 hm3 => by
    obtain ⟨a, e, hm4⟩ := run_of_lft hm3
    have r2' := All.mo g3.s (show All R S2 xs vs from r2)
    obtain ⟨v, e4, r4⟩ := r2'.atI e
    cases (show u = .int i from r3)
    exact ⟨x, vs, i, v, rfl, rfl, .of (g3.h _ _ m2 e2), e4, q a v S3 H3 s3 (g2.tr g3) p3 r4 hm4⟩
theorem e_ixT {R : Rp α} [Mo R] {mA : (List α → μ β) → μ β} {mB : (Int → μ β) → μ β} (ha : Ev p ta σ S H mA (rT K (aAll R))) (hb : Ev p tb σ S H mB rI) : Ev p (tOp (rIxT K) ta tb) σ S H (fun k => mA fun xs => mB fun i => Mir.lft (L2.atI xs i) >>= k) R := fun S1 H1 s g ps k z hm Q q =>
  ha S1 H1 s g ps _ z hm _ fun xs v S2 H2 s2 g2 p2 ⟨x, vs, e2, h2, r2⟩ hm2 => hb S2 H2 s2 (g.tr g2) p2 _ z hm2 _ fun i u S3 H3 s3 g3 p3 r3 hm3 => by
    obtain ⟨a, e, hm4⟩ := run_of_lft hm3
    have r2' := All.mo g3.s (show All R S2 xs vs from r2)
    obtain ⟨v, e4, r4⟩ := r2'.atI e
    cases (show u = .int i from r3)
    exact ⟨x, vs, i, v, e2, rfl, sqT_ex (g3.s.tr g3.i) h2, e4, q a v S3 H3 s3 (g2.tr g3) p3 r4 hm4⟩
/-- a written place of a thing of a known make -/
theorem e_ixC {A : Rq α} {R : Rp γ} {n : Int} {f : α → γ} {mA : (α → μ β) → μ β} {mB : (Int → μ β) → μ β} (ha : Ev p ta σ S H mA (rT K A)) (hb : tb = tC (.int n)) (hn : ∀ a vs S, A a vs S → ∃ v, L2.atI vs n = some v ∧ R (f a) v S) : Ev p (tOp (rIxT K) ta tb) σ S H (fun k => mA fun a => k (f a)) R := fun S1 H1 s g ps k z hm Q q =>
  ha S1 H1 s g ps _ z hm _ fun a v S2 H2 s2 g2 p2 ⟨x, vs, e2, h2, r2⟩ hm2 => by
    subst hb
    obtain ⟨u, e4, r4⟩ := hn a vs S2 r2
    exact ⟨x, vs, n, u, e2, rfl, sqT_ex g2.i h2, e4, q _ u S2 H2 s2 g2 p2 r4 hm2⟩
theorem e_ixCL {A : Rq α} {R : Rp γ} {n : Int} {f : α → γ} {mA : (α → μ β) → μ β} (ha : EvR p ta σ S H mA A) (hb : tb = tC (.int n)) (hn : ∀ a vs S, A a vs S → ∃ v, L2.atI vs n = some v ∧ R (f a) v S) : Ev p (tOp (rIxL K) ta tb) σ S H (fun k => mA fun a => k (f a)) R := fun S1 H1 s g ps k z hm Q q =>
  ha S1 H1 s g ps _ z hm _ fun a x vs S2 H2 s2 g2 p2 e2 m2 r2 hm2 => by
    subst hb
    obtain ⟨u, e4, r4⟩ := hn a vs S2 r2
    exact ⟨x, vs, n, u, rfl, rfl, .of e2, e4, q _ u S2 H2 s2 g2 p2 r4 hm2⟩

/-! ### built-in functions -/
theorem c_lenL {R : Rp α} {m : (List α → μ β) → μ β} (h : EvR p te σ S H m (aAll R)) : Ev p (tCB (fun xs H Q => ∃ p ys, xs = [.ref p] ∧ (SqL K H p ys ∨ SqT K H p ys) ∧ Q (.int ys.length) H) (tCons te tNil)) σ S H (fun k => m fun xs => k (xs.length : Int)) rI := fun S1 H1 s g ps k z hm Q q =>
  h S1 H1 s g ps _ z hm _ fun xs x vs S2 H2 s2 g2 p2 e2 m2 r2 hm2 => ⟨x, vs, rfl, .inl (.of e2), q _ _ S2 H2 s2 g2 p2 (by show V.int _ = V.int _; rw [All.len (show All R S2 xs vs from r2)]) hm2⟩
theorem c_lenT {R : Rp α} {m : (List α → μ β) → μ β} (h : Ev p te σ S H m (rT K (aAll R))) : Ev p (tCB (fun xs H Q => ∃ p ys, xs = [.ref p] ∧ (SqL K H p ys ∨ SqT K H p ys) ∧ Q (.int ys.length) H) (tCons te tNil)) σ S H (fun k => m fun xs => k (xs.length : Int)) rI := fun S1 H1 s g ps k z hm Q q =>
  h S1 H1 s g ps _ z hm _ fun xs v S2 H2 s2 g2 p2 ⟨x, vs, e2, h2, r2⟩ hm2 => ⟨x, vs, by rw [e2], .inr (sqT_ex g2.i h2), q _ _ S2 H2 s2 g2 p2 (by show V.int _ = V.int _; rw [All.len (show All R S2 xs vs from r2)]) hm2⟩
theorem c_sum {m : (List Int → μ β) → μ β} (h : EvR p te σ S H m (aAll rI)) : Ev p (tCB (rSum K) (tCons te tNil)) σ S H (fun k => m fun xs => k xs.sum) rI := fun S1 H1 s g ps k z hm Q q =>
  h S1 H1 s g ps _ z hm _ fun xs x vs S2 H2 s2 g2 p2 e2 m2 r2 hm2 => ⟨x, xs, rfl, .of (by rw [e2, All.ints r2]), q _ _ S2 H2 s2 g2 p2 rfl hm2⟩
theorem min_one {xs : List Int} {a m : Int} (h : xs.min? = some a) (h1 : m ∈ xs) (h2 : ∀ y, y ∈ xs → m ≤ y) : m = a := by
  have := List.min?_eq_some_iff.mp h
  exact Int.le_antisymm (h2 a this.1) (this.2 m h1)
theorem max_one {xs : List Int} {a m : Int} (h : xs.max? = some a) (h1 : m ∈ xs) (h2 : ∀ y, y ∈ xs → y ≤ m) : m = a := by
  have := List.max?_eq_some_iff.mp h
  exact Int.le_antisymm (this.2 m h1) (h2 a this.1)
theorem c_min {m : (List Int → μ β) → μ β} (h : EvR p te σ S H m (aAll rI)) : Ev p (tCB (rMin K) (tCons te tNil)) σ S H (fun k => m fun xs => Mir.lft xs.min? >>= k) rI := fun S1 H1 s g ps k z hm Q q =>
  h S1 H1 s g ps _ z hm _ fun xs x vs S2 H2 s2 g2 p2 e2 m2 r2 hm2 => by
    obtain ⟨a, e, hm3⟩ := run_of_lft hm2
    refine ⟨x, xs, rfl, .of (by rw [e2, All.ints r2]), ?_, fun n h1 h2 => q a _ S2 H2 s2 g2 p2 (by rw [min_one e h1 h2]; rfl) hm3⟩
    cases xs with
    | nil => cases e
    | cons _ _ => simp
theorem c_max {m : (List Int → μ β) → μ β} (h : EvR p te σ S H m (aAll rI)) : Ev p (tCB (rMax K) (tCons te tNil)) σ S H (fun k => m fun xs => Mir.lft xs.max? >>= k) rI := fun S1 H1 s g ps k z hm Q q =>
  h S1 H1 s g ps _ z hm _ fun xs x vs S2 H2 s2 g2 p2 e2 m2 r2 hm2 => by
    obtain ⟨a, e, hm3⟩ := run_of_lft hm2
    refine ⟨x, xs, rfl, .of (by rw [e2, All.ints r2]), ?_, fun n h1 h2 => q a _ S2 H2 s2 g2 p2 (by rw [max_one e h1 h2]; rfl) hm3⟩
    cases xs with
    | nil => cases e
    | cons _ _ => simp
theorem c_min2 {mA mB : (Int → μ β) → μ β} (ha : Ev p ta σ S H mA rI) (hb : Ev p tb σ S H mB rI) : Ev p (tCB (fun xs H Q => ∃ i j, xs = [.int i, .int j] ∧ Q (.int (if j < i then j else i)) H) (tCons ta (tCons tb tNil))) σ S H (fun k => mA fun i => mB fun j => k (if j < i then j else i)) rI := fun S1 H1 s g ps k z hm Q q =>
  ha S1 H1 s g ps _ z hm _ fun i v S2 H2 s2 g2 p2 r2 hm2 => hb S2 H2 s2 (g.tr g2) p2 _ z hm2 _ fun j u S3 H3 s3 g3 p3 r3 hm3 => ⟨i, j, by rw [show v = .int i from r2, show u = .int j from r3], q _ _ S3 H3 s3 (g2.tr g3) p3 rfl hm3⟩
theorem c_max2 {mA mB : (Int → μ β) → μ β} (ha : Ev p ta σ S H mA rI) (hb : Ev p tb σ S H mB rI) : Ev p (tCB (fun xs H Q => ∃ i j, xs = [.int i, .int j] ∧ Q (.int (if j > i then j else i)) H) (tCons ta (tCons tb tNil))) σ S H (fun k => mA fun i => mB fun j => k (if j > i then j else i)) rI := fun S1 H1 s g ps k z hm Q q =>
  ha S1 H1 s g ps _ z hm _ fun i v S2 H2 s2 g2 p2 r2 hm2 => hb S2 H2 s2 (g.tr g2) p2 _ z hm2 _ fun j u S3 H3 s3 g3 p3 r3 hm3 => ⟨i, j, by rw [show v = .int i from r2, show u = .int j from r3], q _ _ S3 H3 s3 (g2.tr g3) p3 rfl hm3⟩
theorem c_abs {m : (Int → μ β) → μ β} (h : Ev p te σ S H m rI) : Ev p (tCB (fun xs H Q => ∃ i, xs = [.int i] ∧ Q (.int (if i < 0 then -i else i)) H) (tCons te tNil)) σ S H (fun k => m fun i => k (if i < 0 then -i else i)) rI := fun S1 H1 s g ps k z hm Q q =>
  h S1 H1 s g ps _ z hm _ fun i v S2 H2 s2 g2 p2 r2 hm2 => ⟨i, by rw [show v = .int i from r2], q _ _ S2 H2 s2 g2 p2 rfl hm2⟩
theorem c_int {m : (Int → μ β) → μ β} (h : Ev p te σ S H m rI) : Ev p (tCB (fun xs H Q => (∃ i, xs = [.int i] ∧ Q (.int i) H) ∨ ∃ k, xs = [.bl k] ∧ Q (.int (if k then 1 else 0)) H) (tCons te tNil)) σ S H (fun k => m fun i => k i) rI := fun S1 H1 s g ps k z hm Q q =>
  h S1 H1 s g ps _ z hm _ fun i v S2 H2 s2 g2 p2 r2 hm2 => .inl ⟨i, by rw [show v = .int i from r2], q _ _ S2 H2 s2 g2 p2 rfl hm2⟩
theorem c_intB {m : (Bool → μ β) → μ β} (h : Ev p te σ S H m rB) : Ev p (tCB (fun xs H Q => (∃ i, xs = [.int i] ∧ Q (.int i) H) ∨ ∃ k, xs = [.bl k] ∧ Q (.int (if k then 1 else 0)) H) (tCons te tNil)) σ S H (fun k => m fun b => k (if b then 1 else 0)) rI := fun S1 H1 s g ps k z hm Q q =>
  h S1 H1 s g ps _ z hm _ fun b v S2 H2 s2 g2 p2 r2 hm2 => .inr ⟨b, by rw [show v = .bl b from r2], q _ _ S2 H2 s2 g2 p2 rfl hm2⟩
theorem c_all {m : (List Bool → μ β) → μ β} (h : EvR p te σ S H m (aAll rB)) : Ev p (tCB (rAll K) (tCons te tNil)) σ S H (fun k => m fun xs => k (xs.all id)) rB := fun S1 H1 s g ps k z hm Q q =>
  h S1 H1 s g ps _ z hm _ fun xs x vs S2 H2 s2 g2 p2 e2 m2 r2 hm2 => ⟨x, xs, rfl, .of (by rw [e2, All.bools r2]), q _ _ S2 H2 s2 g2 p2 rfl hm2⟩
theorem c_any {m : (List Bool → μ β) → μ β} (h : EvR p te σ S H m (aAll rB)) : Ev p (tCB (rAny K) (tCons te tNil)) σ S H (fun k => m fun xs => k (xs.any id)) rB := fun S1 H1 s g ps k z hm Q q =>
  h S1 H1 s g ps _ z hm _ fun xs x vs S2 H2 s2 g2 p2 e2 m2 r2 hm2 => ⟨x, xs, rfl, .of (by rw [e2, All.bools r2]), q _ _ S2 H2 s2 g2 p2 rfl hm2⟩
def rTupOf (K : PySem.W.Frag) : List V → Hp → VK → Prop := fun xs H Q => ∃ p ys, xs = [.ref p] ∧ ((SqL K H p ys ∧ ∀ l, H l = none → Q (.ref l) (upd H l (.tup ys))) ∨ (SqT K H p ys ∧ Q (.ref p) H))
theorem c_tup {A : Rq α} [Mo A] {m : (α → μ β) → μ β} (h : EvR p te σ S H m A) : Ev p (tCB (rTupOf K) (tCons te tNil)) σ S H m (rT K A) := fun S1 H1 s g ps k z hm Q q =>
  h S1 H1 s g ps _ z hm _ fun xs x vs S2 H2 s2 g2 p2 e2 m2 r2 hm2 => ⟨x, vs, rfl, .inl ⟨.of e2, fun y hy =>
    have g3 : Gm p.M S2 H2 (upd S2 y (.tup vs)) (upd H2 y (.tup vs)) := Gm.new g2.i hy
    q xs _ _ _ s2 (g2.tr g3) (p2.go (Gm.new g2.i hy)) ⟨y, vs, rfl, .of upd_same, Mo.mo g3.s r2⟩ hm2⟩⟩
theorem l_list {A : Rq α} {m : (α → μ β) → μ β} (h : EvR p te σ S H m A) : EvL p (tCB (fun xs H Q => ∃ p ys, xs = [.ref p] ∧ (SqL K H p ys ∨ SqT K H p ys) ∧ ∀ l, H l = none → Q (.ref l) (upd H l (.lst ys))) (tCons te tNil)) σ S H m A := fun S1 H1 s g ps k z hm Q q =>
  h S1 H1 s g ps _ z hm _ fun xs x vs S2 H2 s2 g2 p2 e2 m2 r2 hm2 => ⟨x, vs, rfl, .inl (.of e2), fun y hy => by
    have n1 : H1 y = none := by
      cases e : H1 y with
      | none => rfl
      | some u => obtain ⟨u', e'⟩ := g2.t y u e; rw [hy] at e'; cases e'
    exact q xs y vs S2 _ s2 (g2.tr (Gm.own g2.i hy)) (p2.go (Gm.own g2.i hy)) n1 upd_same (g2.i.no hy) (new_nM p2 hy) r2 hm2⟩
theorem l_listT {A : Rq α} {m : (α → μ β) → μ β} (h : Ev p te σ S H m (rT K A)) : EvL p (tCB (fun xs H Q => ∃ p ys, xs = [.ref p] ∧ (SqL K H p ys ∨ SqT K H p ys) ∧ ∀ l, H l = none → Q (.ref l) (upd H l (.lst ys))) (tCons te tNil)) σ S H m A := fun S1 H1 s g ps k z hm Q q =>
  h S1 H1 s g ps _ z hm _ fun xs v S2 H2 s2 g2 p2 ⟨x, vs, e2, h2, r2⟩ hm2 => ⟨x, vs, by rw [e2], .inr (sqT_ex g2.i h2), fun y hy => by
    have n1 : H1 y = none := by
      cases e : H1 y with
      | none => rfl
      | some u => obtain ⟨u', e'⟩ := g2.t y u e; rw [hy] at e'; cases e'
    exact q xs y vs S2 _ s2 (g2.tr (Gm.own g2.i hy)) (p2.go (Gm.own g2.i hy)) n1 upd_same (g2.i.no hy) (new_nM p2 hy) r2 hm2⟩
/-- lists one behind another -/
theorem l_cat {R : Rp α} [Mo R] {mA mB : (List α → μ β) → μ β} (ha : EvR p ta σ S H mA (aAll R)) (hb : EvR p tb σ S H mB (aAll R)) : EvL p (tOp rCat ta tb) σ S H (fun k => mA fun xs => mB fun ys => Mir.lft (grd (xs.length + ys.length ≤ 16000000)) >>= fun _ => k (xs ++ ys)) (aAll R) := fun S1 H1 s g ps k z hm Q q =>
  ha S1 H1 s g ps _ z hm _ fun xs x vs S2 H2 s2 g2 p2 e2 m2 r2 hm2 => hb S2 H2 s2 (g.tr g2) p2 _ z hm2 _ fun ys y us S3 H3 s3 g3 p3 e3 m3 r3 hm3 => by
    obtain ⟨_, e, hm4⟩ := run_of_lft hm3
    have hl := grd_of e
    have a2 := All.mo g3.s (show All R S2 xs vs from r2)
    have a3 : All R S3 ys us := r3
    refine ⟨x, y, vs, us, rfl, rfl, g3.h _ _ m2 e2, e3, by rw [← a2.len, ← a3.len, sizeLine_eq]; omega, fun l hl => ?_⟩
    have n1 : H1 l = none := by
      cases e : H1 l with
      | none => rfl
      | some u => obtain ⟨u', e'⟩ := (g2.tr g3).t l u e; rw [hl] at e'; cases e'
    exact q _ l _ S3 _ s3 ((g2.tr g3).tr (Gm.own g3.i hl)) (p3.go (Gm.own g3.i hl)) n1 upd_same (g3.i.no hl) (new_nM p3 hl) (a2.app a3) hm4
theorem All.reps {R : Rp α} {xs : List α} {vs : List V} (h : All R S xs vs) : ∀ n : Nat, All R S (List.replicate n xs).flatten (List.replicate n vs).flatten
  | 0 => .nil
  | n + 1 => by
    rw [List.replicate_succ, List.replicate_succ, List.flatten_cons, List.flatten_cons]
    exact h.app (All.reps h n)
def RpB (n : Nat) (k : Int) : Prop := -(2 ^ 62) ≤ k ∧ k < 2 ^ 62 ∧ n * k.toNat ≤ 16000000
instance (n : Nat) (k : Int) : Decidable (RpB n k) := inferInstanceAs (Decidable (_ ∧ _))
theorem l_rep {R : Rp α} [Mo R] {mA : (List α → μ β) → μ β} {mB : (Int → μ β) → μ β} (ha : EvR p ta σ S H mA (aAll R)) (hb : Ev p tb σ S H mB rI) : EvL p (tOp rRep ta tb) σ S H (fun k => mA fun xs => mB fun n => Mir.lft (grd (RpB xs.length n)) >>= fun _ => k (List.replicate n.toNat xs).flatten) (aAll R) := fun S1 H1 s g ps k z hm Q q =>
  ha S1 H1 s g ps _ z hm _ fun xs x vs S2 H2 s2 g2 p2 e2 m2 r2 hm2 => hb S2 H2 s2 (g.tr g2) p2 _ z hm2 _ fun n u S3 H3 s3 g3 p3 r3 hm3 => by
    obtain ⟨_, e, hm4⟩ := run_of_lft hm3
    have hl := grd_of e
    have a2 := All.mo g3.s (show All R S2 xs vs from r2)
    cases (show u = .int n from r3)
    have l1 := hl.1
    have l2 := hl.2.1
    have l3 := hl.2.2
    rw [a2.len] at l3
    refine ⟨x, n, vs, rfl, rfl, g3.h _ _ m2 e2, by omega, by omega, by rw [sizeLine_eq]; omega, fun l hl => ?_⟩
    have n1 : H1 l = none := by
      cases e : H1 l with
      | none => rfl
      | some u => obtain ⟨u', e'⟩ := (g2.tr g3).t l u e; rw [hl] at e'; cases e'
    exact q _ l _ S3 _ s3 ((g2.tr g3).tr (Gm.own g3.i hl)) (p3.go (Gm.own g3.i hl)) n1 upd_same (g3.i.no hl) (new_nM p3 hl) (a2.reps _) hm4
/-- x in (a, b), x in xs: whole numbers -/
theorem inV_ints (x : Int) (xs : List Int) : inV (.int x) (xs.map V.int) = xs.contains x := by
  unfold inV
  rw [List.any_map]
  rw [List.contains_eq_any_beq]
  congr 1
  funext y
  show (y == x) = (x == y)
  rw [Bool.beq_comm]
theorem flat_ints (xs : List Int) : (xs.map V.int).all flatV = true := by
  rw [List.all_map]
  simp [flatV]
theorem e_inL {neg : Bool} {mA : (Int → μ β) → μ β} {mB : (List Int → μ β) → μ β} (ha : Ev p ta σ S H mA rI) (hb : EvR p tb σ S H mB (aAll rI)) : Ev p (tOp (rIn K neg) ta tb) σ S H (fun k => mA fun x => mB fun xs => k (if neg = true then !xs.contains x else xs.contains x)) rB := fun S1 H1 s g ps k z hm Q q =>
  ha S1 H1 s g ps _ z hm _ fun x v S2 H2 s2 g2 p2 r2 hm2 => hb S2 H2 s2 (g.tr g2) p2 _ z hm2 _ fun xs y us S3 H3 s3 g3 p3 e3 m3 r3 hm3 => by
    cases (show v = .int x from r2)
    have e4 := All.ints r3
    subst e4
    exact ⟨y, _, rfl, .inl (.of e3), rfl, flat_ints xs, q _ _ S3 H3 s3 (g2.tr g3) p3 (by rw [inV_ints]; rfl) hm3⟩
theorem e_inT {neg : Bool} {mA : (Int → μ β) → μ β} {mB : (List Int → μ β) → μ β} (ha : Ev p ta σ S H mA rI) (hb : Ev p tb σ S H mB (rT K (aAll rI))) : Ev p (tOp (rIn K neg) ta tb) σ S H (fun k => mA fun x => mB fun xs => k (if neg = true then !xs.contains x else xs.contains x)) rB := fun S1 H1 s g ps k z hm Q q =>
  ha S1 H1 s g ps _ z hm _ fun x v S2 H2 s2 g2 p2 r2 hm2 => hb S2 H2 s2 (g.tr g2) p2 _ z hm2 _ fun xs u S3 H3 s3 g3 p3 ⟨y, us, e3, h3, r3⟩ hm3 => by
    cases (show v = .int x from r2)
    have e4 := All.ints r3
    subst e4
    exact ⟨y, _, e3, .inr (sqT_ex g3.i h3), rfl, flat_ints xs, q _ _ S3 H3 s3 (g2.tr g3) p3 (by rw [inV_ints]; rfl) hm3⟩

/-! ### repr -/
class Dt (K : PySem.W.Frag) {α β : Type} (R : α → β → Hp → Prop) (δ : outParam (α → PyData)) : Prop where
  dt : True
/-- what a value is as data -/
def isD (K : PySem.W.Frag) (R : Rp α) (d : α → PyData) : Prop := ∀ a v S H, R a v S → Ex S H → Dp K H v (d a)
def isDs (K : PySem.W.Frag) (A : Rq α) (d : α → List PyData) : Prop := ∀ a vs S H, A a vs S → Ex S H → DpAll K H vs (d a)
theorem d_I : isD K rI .int := fun a v _ _ h _ => by rw [show v = .int a from h]; exact .int a
theorem d_B : isD K rB .bool := fun a v _ _ h _ => by rw [show v = .bl a from h]; exact .bl a
theorem d_S : isD K rS .str := fun a v _ _ h _ => by rw [show v = .str a from h]; exact .str a
theorem d_N : isD K rN fun _ => .none := fun a v _ _ h _ => by rw [show v = .non from h]; exact .non
def dO (d : α → PyData) : Option α → PyData
  | none => .none
  | some a => d a
theorem d_O {R : Rp α} {d : α → PyData} (h : isD K R d) : isD K (rO R) (dO d) := fun a v S H r e => by
  cases a with
  | none => rw [show v = .non from r]; exact .non
  | some x => exact h x v S H r e
def dU (d : α → PyData) (d' : γ → PyData) : α ⊕ γ → PyData
  | .inl a => d a
  | .inr b => d' b
theorem d_U {R : Rp α} {R' : Rp γ} {d : α → PyData} {d' : γ → PyData} (h : isD K R d) (h' : isD K R' d') : isD K (rU R R') (dU d d') := fun a v S H r e => by
  cases a with
  | inl x => exact h x v S H r e
  | inr x => exact h' x v S H r e
theorem ds_nil : isDs K aNil fun _ => [] := fun _ vs _ _ h _ => by rw [show vs = [] from h]; exact .nil
theorem ds_one {R : Rp α} {d : α → PyData} (h : isD K R d) : isDs K (aOne R) fun a => [d a] := fun a vs S H ⟨v, e1, r⟩ e => by rw [e1]; exact .cons (h a v S H r e) .nil
theorem ds_cons {R : Rp α} {A : Rq γ} {d : α → PyData} {ds : γ → List PyData} (h : isD K R d) (h' : isDs K A ds) : isDs K (aCons R A) fun a => d a.1 :: ds a.2 := fun a vs S H ⟨v, r, e1, r1, r2⟩ e => by rw [e1]; exact .cons (h _ v S H r1 e) (h' _ r S H r2 e)
theorem ds_all {R : Rp α} {d : α → PyData} (h : isD K R d) : isDs K (aAll R) fun xs => xs.map d := fun xs vs S H r e => by
  have go : ∀ {xs : List α} {vs : List V}, All R S xs vs → DpAll K H vs (xs.map d) := by
    intro xs vs r
    induction r with
    | nil => exact .nil
    | cons r _ ih => exact .cons (h _ _ S H r e) ih
  exact go r
theorem d_T {A : Rq α} {ds : α → List PyData} (h : isDs K A ds) : isD K (rT K A) fun a => .tuple (ds a) := fun a v S H ⟨x, vs, e1, h1, r⟩ e => by rw [e1]; exact .tup (sqT_ex e h1) (h a vs S H r e)
theorem d_L {A : Rq α} {ds : α → List PyData} (h : isDs K A ds) : isD K (rL A) fun a => .list (ds a) := fun a v S H ⟨x, vs, e1, h1, r⟩ e => by rw [e1]; exact .lst (.of (e _ _ h1)) (h a vs S H r e)
end

/-! ### repr, ints of some thousand figures too -/
section
variable {prog : Program} {w : World} {A : Around} {E : Value → Shared → Prop} {s : Shared} {h₀ : Heap}
theorem lt_lim {a : Nat} (h : a.log2 < 12900) : a < 10 ^ 4300 := Nat.lt_of_lt_of_le (PyProof.Rows.lt_of_log2 h) PyProof.Rows.pow_lo
set_option maxRecDepth 100000 in
theorem call_int_reprB {a : Int} {t : Tok} {Q : Value → Shared → Prop} (hn : s.heap.NoDigits) (ha : a.natAbs.log2 < 12900) (h : Q (.str (toString a) s.toks) { s with toks := s.toks + 1 }) :
    wpAny (model prog w) A (call (.builtin "int.__repr__") [.int a t]) Q E s := by
  refine wpAny_call (codeAny_call_builtin F.slot_int_repr.plain F.entry_int_repr (F.slot_int_repr.check _ _ _ _ _ _ _ _ (typeIs_int _ a t) (F.args_int_repr_1 _) ?_))
  unfold Builtin.«int.__repr__»
  show wpAny _ _ (do let r ← Builtin.overDigitLimit? a; _) _ _ s
  refine wpAny_bind (overDigitLimit_any hn (fun hlt => ?_) (fun hge => ?_))
  · exact wpAny_bind (wpAny_mkStr (wpAny_pure h) (by have e := int_text_length_le (k := 12900) (by decide) ha; rw [PySem.ofString_length, sizeLine_eq]; omega))
  · have hlt := lt_lim ha
    exact absurd hlt (Nat.not_lt.mpr hge)
theorem pyReprObj_intB {a : Int} {t : Tok} {Q : Value → Shared → Prop} (hn : s.heap.NoDigits) (ha : a.natAbs.log2 < 12900) (h : Q (.str (toString a) s.toks) { s with toks := s.toks + 1 }) : wpAny (model prog w) A (pyReprObj (.int a t)) Q E s := by
  unfold pyReprObj
  have hv : ([.int a t] : List Value).any Value.onHeap = false := rfl
  simp only [cRoomFor, hv, Bool.false_eq_true, if_false, pure_bind]
  refine wpAny_bind (wpAny_specialOf (name := Str.ofString "__repr__") (typeIs_int s a t) F.slot_int_repr.lookup ?_)
  refine wpAny_bind (m := callSpecialIfBound? (.int a t) (Str.ofString "__repr__")) (wpAny_callSpecialIfBound?_slot (name := Str.ofString "__repr__") (typeIs_int s a t) F.slot_int_repr (call_int_reprB hn ha ?_))
  exact wpAny_bind (wpAny_isInstance (T := "str") (b := true) rfl isSubtype_str_str (wpAny_pure h))
theorem repr_of_intB {a : Int} {t : Tok} {Q : Value → Shared → Prop} (hn : s.heap.NoDigits) (ha : a.natAbs.log2 < 12900) (h : Q (.str (toString a) s.toks) { s with toks := s.toks + 1 }) : wpAny (model prog w) A (call (.builtin "repr") [.int a t]) Q E s := by
  refine Calls.call_function_entry F.kind_repr F.plain_repr F.entry_repr (F.args_repr1 _) ?_
  unfold Builtin.«repr»
  have hv : ([.int a t] : List Value).any Value.onHeap = false := rfl
  refine wpAny_bind (m := oneArg "repr" _) (wpAny_pure ?_)
  simp only [cRoomFor, hv, Bool.false_eq_true, if_false, pure_bind]
  refine wpAny_bind (wpAny_specialOf (name := Str.ofString "__repr__") (typeIs_int s a t) F.slot_int_repr.lookup ?_)
  refine wpAny_bind (m := callSpecialIfBound? (.int a t) (Str.ofString "__repr__")) (wpAny_callSpecialIfBound?_slot (name := Str.ofString "__repr__") (typeIs_int s a t) F.slot_int_repr (call_int_reprB hn ha ?_))
  refine wpAny_bind (wpAny_isInstance (T := "str") (b := true) rfl isSubtype_str_str ?_)
  exact wpAny_pure ⟨_, rfl, h⟩
theorem reprK_intB {a : Int} (t : Tok) (hn : h₀.NoDigits) (ha : a.natAbs.log2 < 12900) (as : List Addr) (d : Nat) : ReprK prog w as h₀ d (.int a t) (toString a) := fun n hz A g E s Q _ _ _ hk hQ => by
  have hn' : n ≤ sizeLine := by omega
  rw [pyReprUnder_leaf (v := .int a t) hn' (fun _ e => nomatch e)]
  unfold pyRepr
  exact wpAny_bind (pyReprObj_intB (hn.keeps hk) ha (wpAny_pure (hQ s.heap _ fun _ _ e => e)))
end
mutual
/-- what repr can write here -/
def shB : PyData → Bool
  | .none | .bool _ | .str _ => true
  | .int i => decide (i.natAbs.log2 < 12900)
  | .list xs | .tuple xs => shsB xs
  | .dict _ => false
def shsB : List PyData → Bool
  | [] => true
  | x :: xs => shB x && shsB xs
end
section
variable {prog : Program} {w : World} {h₀ : Heap}
mutual
theorem reprK_of (hn : h₀.NoDigits) : ∀ {v : Value} {d : PyData} {as : List Addr}, Reads h₀ v d as → shB d = true → d.shown.length ≤ sizeLine → ∃ bs, ReadAtMost h₀ d.depth bs ∧ ReprK prog w bs h₀ d.depth v d.shown
  | _, _, _, .none, _, _ => ⟨[], (fun _ h => nomatch h), by simp only [PyData.shown]; exact .of_is ReprIs.none _ _ _⟩
  | _, _, _, .bool b, _, _ => ⟨[], (fun _ h => nomatch h), by simp only [PyData.shown]; exact .of_is (ReprIs.bool b) _ _ _⟩
  | _, _, _, .int i t, hs, _ => ⟨[], (fun _ h => nomatch h), by simp only [PyData.shown]; exact reprK_intB t hn (by simpa [shB] using hs) _ _⟩
  | _, _, _, .str x t, _, hz => ⟨[], (fun _ h => nomatch h), by simp only [PyData.shown]; exact .of_is (ReprIs.str x t (by simpa only [PyData.shown] using hz)) _ _ _⟩
  | _, _, _, .list (a := a) (vs := vs) (xs := xs) h1 h2 h3 h4, hs, hz => by
    have hz' : (listText (PyData.shownAll xs)).length ≤ sizeLine := by simpa only [PyData.shown] using hz
    obtain ⟨bs, hb, hk⟩ := reprsK_of hn h4 (by simpa [shB] using hs) (fun t ht => Nat.le_trans (listText_mem_le ht) hz')
    have r : Reads h₀ (.ref a) (.list xs) _ := .list h1 h2 h3 h4
    have hna : a ∉ bs := not_mem_of_deeper r (by simp only [PyData.depth]; omega) hb
    refine ⟨a :: bs, ReadAtMost.cons r (by simp only [PyData.depth]; omega) hb, ?_⟩
    simp only [PyData.depth, PyData.shown]
    obtain ⟨l⟩ := vs
    cases l with
    | nil =>
      have h4' : ReadsAll h₀ [] xs _ := h4
      cases h4'
      simp only [PyData.shownAll, listText_nil]
      exact ReprK.listEmpty h1 h2 h3
    | cons x l => exact ReprK.list h1 h2 h3 hna (by simpa using hk.length_eq) (fun i y e => hk.item i y (by simpa using e))
  | _, _, _, .tuple (a := a) (xs := xs) h1 h2 h3 h4, hs, hz => by
    have hz' : (tupleText (PyData.shownAll xs)).length ≤ sizeLine := by simpa only [PyData.shown] using hz
    obtain ⟨bs, hb, hk⟩ := reprsK_of hn h4 (by simpa [shB] using hs) (fun t ht => Nat.le_trans (tupleText_mem_le ht) hz')
    have r : Reads h₀ (.ref a) (.tuple xs) _ := .tuple h1 h2 h3 h4
    have hna : a ∉ bs := not_mem_of_deeper r (by simp only [PyData.depth]; omega) hb
    refine ⟨a :: bs, ReadAtMost.cons r (by simp only [PyData.depth]; omega) hb, ?_⟩
    simp only [PyData.depth, PyData.shown]
    exact ReprK.tuple h1 h2 h3 hna hk
  | _, _, _, .dict _ _ _ _ _, hs, _ => by simp [shB] at hs
theorem reprsK_of (hn : h₀.NoDigits) : ∀ {vs : List Value} {ds : List PyData} {as : List Addr}, ReadsAll h₀ vs ds as → shsB ds = true → (∀ t ∈ PyData.shownAll ds, t.length ≤ sizeLine) →
    ∃ bs, ReadAtMost h₀ (PyData.depthAll ds) bs ∧ ReprAllK prog w bs h₀ (PyData.depthAll ds) vs (PyData.shownAll ds)
  | _, _, _, .nil, _, _ => ⟨[], (fun _ h => nomatch h), by simp only [PyData.shownAll]; exact .nil⟩
  | _, _, _, .cons (d := d) (ds := ds) r rs, hs, hz => by
    have hs' : shB d = true ∧ shsB ds = true := by simpa [shsB] using hs
    obtain ⟨b1, hb1, k1⟩ := reprK_of hn r hs'.1 (hz _ (by simp only [PyData.shownAll]; exact List.mem_cons_self ..))
    obtain ⟨b2, hb2, k2⟩ := reprsK_of hn rs hs'.2 (fun t ht => hz t (by simp only [PyData.shownAll]; exact List.mem_cons_of_mem _ ht))
    refine ⟨b1 ++ b2, ?_, ?_⟩
    · intro b hm
      simp only [PyData.depthAll]
      rcases List.mem_append.mp hm with hm | hm
      · obtain ⟨d', as', r', hd'⟩ := hb1 b hm
        exact ⟨d', as', r', Nat.le_trans hd' (Nat.le_max_left _ _)⟩
      · obtain ⟨d', as', r', hd'⟩ := hb2 b hm
        exact ⟨d', as', r', Nat.le_trans hd' (Nat.le_max_right _ _)⟩
    · simp only [PyData.depthAll, PyData.shownAll]
      exact .cons ((k1.more fun b hb => List.mem_append_left _ hb).level_le (Nat.le_max_left _ _)) (k2.more_le (fun b hb => List.mem_append_right _ hb) (Nat.le_max_right _ _))
end
theorem repr_readsB {a : Addr} {d : PyData} {as : List Addr} {A : Around} {E : Value → Shared → Prop} {s : Shared} {Q : Value → Shared → Prop} (hn : h₀.NoDigits) (r : Reads h₀ (.ref a) d as) (hs : shB d = true) (hg : A.guards = some []) (hu : A.units + (d.depth + 1) < cLine) (hk0 : ∀ b o, h₀.get? b = some o → s.heap.get? b = some o)
    (hQ : ∀ h' u tk, (∀ b o, s.heap.get? b = some o → h'.get? b = some o) → Q (.str d.shown u) { s with heap := h', toks := tk }) (hsz : d.shown.length ≤ sizeLine) : wpAny (model prog w) A (call (.builtin "repr") [.ref a]) Q E s := by
  have sh : ∃ T idr, ShowsBy prog w h₀ a d T idr := by
    cases r with
    | list h1 h2 h3 h4 =>
      rename_i o vs n xs bs₀
      have hz' : (listText (PyData.shownAll xs)).length ≤ sizeLine := by simpa only [PyData.shown] using hsz
      obtain ⟨bs, hb, hk⟩ := reprsK_of (prog := prog) (w := w) hn h4 (by simpa [shB] using hs) (fun t ht => Nat.le_trans (listText_mem_le ht) hz')
      have hna : a ∉ bs := not_mem_of_deeper (.list h1 h2 h3 h4) (by simp only [PyData.depth]; omega) hb
      refine ⟨"list", "list.__repr__", F.slot_list_repr.toG, F.slot_list_str, F.slot_list_format, fun s hk0 => ⟨o, hk0 _ _ h1, h2⟩, fun A E s Q hg hu hk0 hQ => ?_⟩
      simp only [PyData.depth] at hu
      simp only [PyData.shown] at hQ
      obtain ⟨l⟩ := vs
      cases l with
      | nil =>
        have h4' : ReadsAll h₀ [] xs _ := h4
        cases h4'
        simp only [PyData.shownAll, listText_nil] at hQ
        exact call_list_repr_empty ⟨o, hk0 _ _ h1, h2⟩ (hk0 _ _ h1) h3 (hQ s.heap _ _ fun _ _ e => e)
      | cons x l =>
        exact call_list_reprK h1 h2 h3 hna (by simpa using hk.length_eq) (fun i y e => hk.item i y (by simpa using e)) hg (fun b _ => Clear.nil b) hu hk0 hQ hz'
    | tuple h1 h2 h3 h4 =>
      rename_i o vs n xs
      have hz' : (tupleText (PyData.shownAll xs)).length ≤ sizeLine := by simpa only [PyData.shown] using hsz
      obtain ⟨bs, hb, hk⟩ := reprsK_of (prog := prog) (w := w) hn h4 (by simpa [shB] using hs) (fun t ht => Nat.le_trans (tupleText_mem_le ht) hz')
      have hna : a ∉ bs := not_mem_of_deeper (.tuple h1 h2 h3 h4) (by simp only [PyData.depth]; omega) hb
      refine ⟨"tuple", "tuple.__repr__", F.slot_tuple_repr, F.slot_tuple_str, F.slot_tuple_format, fun s hk0 => ⟨o, hk0 _ _ h1, h2⟩, fun A E s Q hg hu hk0 hQ => ?_⟩
      simp only [PyData.depth] at hu
      simp only [PyData.shown] at hQ
      exact call_tuple_reprK h1 h2 h3 hna hk hg (fun b _ => Clear.nil b) hu hk0 hQ hz'
    | dict _ _ _ _ _ => simp [shB] at hs
  obtain ⟨T, idr, S⟩ := sh
  exact call_repr_slot (by omega) (S.typeIs s hk0) S.slotRepr (S.call A.in1 E s _ hg (by show A.units + 1 + d.depth < cLine; omega) hk0 fun h' u tk hk => ⟨_, _, rfl, hQ h' u tk hk⟩)
end
section
variable {K : PySem.W.Frag}
mutual
/-- an upper bound of what is written of a value; too much where it can't be written -/
def wt : PyData → Nat
  | .none => 10
  | .bool _ => 10
  | .int i => if i.natAbs < 10 ^ 40 then 50 else if i.natAbs.log2 < 12900 then 13000 else 100000000
  | .str x => if x.cps.toList.all (fun c => decide (c < 16 ^ 8)) = true then 10 * x.length + 2 else 100000000
  | .list xs => wts xs + 3
  | .tuple xs => wts xs + 3
  | .dict _ => 100000000
def wts : List PyData → Nat
  | [] => 0
  | x :: xs => wt x + 2 + wts xs
end
theorem str_len_of (x : String) : (Str.ofString x).length = x.length := PySem.ofString_length x
mutual
theorem wt_ok : ∀ d : PyData, wt d < 100000000 → shB d = true ∧ d.shown.length ≤ wt d
  | .none, _ => ⟨by simp only [shB], by simp only [PyData.shown, wt]; decide +kernel⟩
  | .bool b, _ => ⟨by simp only [shB], by simp only [PyData.shown, wt]; cases b <;> decide +kernel⟩
  | .int i, h => by
    simp only [wt] at h ⊢
    by_cases h1 : i.natAbs < 10 ^ 40
    · have e := int_text_length_le10 (k := 40) (by decide) h1
      refine ⟨?_, ?_⟩
      · simp only [shB, decide_eq_true_eq]
        exact PySem.Flt.log2_lt_of (by decide) (Nat.lt_trans h1 (by decide +kernel))
      · simp only [PyData.shown]
        rw [str_len_of, if_pos h1]
        omega
    · rw [if_neg h1] at h ⊢
      by_cases h2 : i.natAbs.log2 < 12900
      · have e := int_text_length_le (k := 12900) (by decide) h2
        refine ⟨?_, ?_⟩
        · simp only [shB, decide_eq_true_eq]
          exact h2
        · simp only [PyData.shown]
          rw [str_len_of, if_pos h2]
          omega
      · rw [if_neg h2] at h
        exact absurd h (by decide)
  | .str x, h => by
    simp only [wt] at h ⊢
    by_cases h1 : x.cps.toList.all (fun c => decide (c < 16 ^ 8)) = true
    · refine ⟨by simp only [shB], ?_⟩
      simp only [PyData.shown]
      rw [if_pos h1]
      exact StrLaws.reprText_len x fun c hc => by
        have := List.all_eq_true.mp h1 c hc
        exact of_decide_eq_true this
    · rw [if_neg h1] at h
      exact absurd h (by decide)
  | .list xs, h => by
    simp only [wt] at h ⊢
    obtain ⟨h1, h3⟩ := wts_ok xs (by omega)
    refine ⟨by simpa only [shB] using h1, ?_⟩
    simp only [PyData.shown]
    have := listText_len_le (PyData.shownAll xs)
    omega
  | .tuple xs, h => by
    simp only [wt] at h ⊢
    obtain ⟨h1, h3⟩ := wts_ok xs (by omega)
    refine ⟨by simpa only [shB] using h1, ?_⟩
    simp only [PyData.shown]
    have := tupleText_len_le (PyData.shownAll xs)
    omega
  | .dict _, h => by simp only [wt] at h; exact absurd h (by decide)
theorem wts_ok : ∀ xs : List PyData, wts xs < 100000000 → shsB xs = true ∧ ((PyData.shownAll xs).map (·.length)).sum + 2 * (PyData.shownAll xs).length ≤ wts xs
  | [], _ => ⟨by simp only [shsB], by simp only [PyData.shownAll, wts]; decide⟩
  | x :: xs, h => by
    simp only [wts] at h ⊢
    obtain ⟨a1, a3⟩ := wt_ok x (by omega)
    obtain ⟨b1, b3⟩ := wts_ok xs (by omega)
    refine ⟨by simp only [shsB, a1, b1, Bool.and_self], ?_⟩
    simp only [PyData.shownAll, List.map_cons, List.sum_cons, List.length_cons]
    omega
end
/-- what repr takes -/
def OkD (d : PyData) : Prop := d.depth ≤ 50 ∧ wt d ≤ 16000000
instance (d : PyData) : Decidable (OkD d) := inferInstanceAs (Decidable (_ ∧ _))
def rRepr (K : PySem.W.Frag) : List V → Hp → VK → Prop := fun xs H Q => ∃ x d, xs = [x] ∧ Dp K H x d ∧ OkD d ∧ Q (.str d.shown) H
end
section
variable {X : Cx}
theorem call_repr {k : Nat} (hr : Room k X.A) (gd : X.A.guards = some []) (nd : X.base.NoDigits) : CallR X (.builtin "repr") (rRepr X.K) := by
  intro pins s σ H xs us Q I r h
  obtain ⟨x, d, rfl, hd, ok, q⟩ := h
  obtain ⟨u, rfl, ru⟩ := vals1 r
  obtain ⟨as, rd⟩ := Dp.reads I d x u hd ru
  obtain ⟨h1, h3⟩ := wt_ok d (by have := ok.2; omega)
  have hn : s.heap.NoDigits := nd.keeps I.bk
  have hz : d.shown.length ≤ sizeLine := by rw [sizeLine_eq]; have := ok.2; omega
  have hu := hr.units
  have hdp := ok.1
  have fin : ∀ {h' : Heap} {t : Tok} {tk : Nat}, (∀ b o, s.heap.get? b = some o → h'.get? b = some o) → EP X pins σ Q (.str d.shown t) { s with heap := h', toks := tk } :=
    fun {h' t tk} kp => ⟨.str d.shown, H, I.kept kp, ⟨t, rfl⟩, q⟩
  cases hd with
  | non =>
    obtain rfl : u = Value.none := ru
    exact PySem.P.repr_of_none (by have := fin (h' := s.heap) (t := s.toks) (tk := s.toks + 1) (fun _ _ e => e); rwa [PyData.shown_none] at this)
  | bl b =>
    obtain rfl : u = Value.bool b := ru
    refine PySem.P.repr_of_bool ?_
    have := fin (h' := s.heap) (t := s.toks) (tk := s.toks + 1) (fun _ _ e => e)
    rw [PyData.shown_bool] at this
    cases b <;> exact this
  | int i =>
    obtain ⟨t, rfl⟩ := ru
    refine repr_of_intB hn (by simpa [shB] using h1) ?_
    have := fin (h' := s.heap) (t := s.toks) (tk := s.toks + 1) (fun _ _ e => e)
    rwa [PyData.shown_int] at this
  | str z =>
    obtain ⟨t, rfl⟩ := ru
    refine PySem.P.repr_of_str ?_ (by rwa [PyData.shown_str] at hz)
    have := fin (h' := s.heap) (t := s.toks) (tk := s.toks + 1) (fun _ _ e => e)
    rwa [PyData.shown_str] at this
  | lst _ _ =>
    obtain rfl : u = Value.ref _ := ru
    exact repr_readsB hn rd h1 gd (by omega) (fun _ _ e => e) (fun h' t tk kp => fin kp) hz
  | tup _ _ =>
    obtain rfl : u = Value.ref _ := ru
    exact repr_readsB hn rd h1 gd (by omega) (fun _ _ e => e) (fun h' t tk kp => fin kp) hz
end
section
variable {μ : Type → Type} {τ : Type} [Mir μ τ] {α β γ δ ρ : Type} {p : Pt τ} {σ : St} {S H S0 H0 : Hp} {te ta tb : TE} {tt : TT} {K : PySem.W.Frag}
/-- what is written of a value, told by the value -/
def rW : Rp PyData := fun d v _ => v = .str d.shown
instance : Mo rW := ⟨fun _ h => h⟩
theorem c_repr {R : Rp α} {d : α → PyData} {m : (α → μ β) → μ β} (h : Ev p te σ S H m R) (hd : isD K R d) : Ev p (tCB (rRepr K) (tCons te tNil)) σ S H (fun k => m fun a => bnd (d a) fun w => Mir.lft (grd (OkD w)) >>= fun _ => k w) rW := fun S1 H1 s g ps k z hm Q q =>
  h S1 H1 s g ps _ z hm _ fun a v S2 H2 s2 g2 p2 r2 hm2 => by
    obtain ⟨_, e, hm3⟩ := run_of_lft (show Mir.run (Mir.lft (grd (OkD (d a))) >>= fun _ => k (d a)) s2 = some z from hm2)
    exact ⟨v, d a, rfl, hd a v S2 H2 r2 g2.i, grd_of e, q _ _ S2 H2 s2 g2 p2 rfl hm3⟩
open Classical in
/-- a condition that must hold, of any kind -/
noncomputable def grP (c : Prop) : Option Unit := if c then some () else none
theorem grP_of {c : Prop} {u : Unit} (h : grP c = some u) : c := by
  unfold grP at h
  split at h
  · assumption
  · cases h
theorem grP_ok {c : Prop} (h : c) : grP c = some () := by
  unfold grP
  rw [if_pos h]
/-- two writings that must be the same -/
theorem e_neW {mA mB : (PyData → μ β) → μ β} (ha : Ev p ta σ S H mA rW) (hb : Ev p tb σ S H mB rW) : Ev p (tOp rNe ta tb) σ S H (fun k => mA fun a => mB fun b => Mir.lft (grP (a = b)) >>= fun _ => k false) rB := fun S1 H1 s g ps k z hm Q q =>
  ha S1 H1 s g ps _ z hm _ fun a v S2 H2 s2 g2 p2 r2 hm2 => hb S2 H2 s2 (g.tr g2) p2 _ z hm2 _ fun b u S3 H3 s3 g3 p3 r3 hm3 => by
    obtain ⟨_, e, hm4⟩ := run_of_lft hm3
    have e1 := grP_of e
    subst e1
    have e2 : v = .str a.shown := r2
    have e3 : u = .str a.shown := r3
    subst e2
    subst e3
    exact ⟨rfl, q false _ S3 H3 s3 (g2.tr g3) p3 (by show V.bl _ = V.bl _; simp) hm4⟩
theorem e_eqW {mA mB : (PyData → μ β) → μ β} (ha : Ev p ta σ S H mA rW) (hb : Ev p tb σ S H mB rW) : Ev p (tOp rEq ta tb) σ S H (fun k => mA fun a => mB fun b => Mir.lft (grP (a = b)) >>= fun _ => k true) rB := fun S1 H1 s g ps k z hm Q q =>
  ha S1 H1 s g ps _ z hm _ fun a v S2 H2 s2 g2 p2 r2 hm2 => hb S2 H2 s2 (g.tr g2) p2 _ z hm2 _ fun b u S3 H3 s3 g3 p3 r3 hm3 => by
    obtain ⟨_, e, hm4⟩ := run_of_lft hm3
    have e1 := grP_of e
    subst e1
    have e2 : v = .str a.shown := r2
    have e3 : u = .str a.shown := r3
    subst e2
    subst e3
    exact ⟨rfl, q true _ S3 H3 s3 (g2.tr g3) p3 (by show V.bl _ = V.bl _; simp) hm4⟩
end
end Wk
set_option Elab.async false
set_option maxRecDepth 100000
set_option maxHeartbeats 4000000
set_option linter.all false
/-! W5: defs by their names -/
namespace Wk
open PySem L2
open PyProof.Rows hiding St
/-- the def x of the top stands as it was written -/
def DefAt (K : PySem.W.Frag) (mg : Str → Option Value) (x : Str) (st : Stmt) : Prop := ∃ f fd, Fun K x x st f fd ∧ mg x = some (.ref f)
theorem defAt {K : PySem.W.Frag} {h : Heap} {mg : Str → Option Value} {x : Str} {st : Stmt} {f : Addr} {od an : Option Addr} {sl : Array (Option Value)} {oc kV doc pm cd ct : Value} (X : K.In h) (G : h.Ns mainGlobals mg)
    (a : PySem.W.nsIn K mainGlobals x = some (some (.ref f))) (l : K.lookup f = some ⟨oc, od, .func (PySem.W.fnOf x x (defArgs st) (defBody st) (defScope st) .none kV doc pm an cd ct), sl⟩)
    (c : PySem.W.codeIn K cd x = true) (k : PySem.W.keepIn K (.ref f) = true) : DefAt K mg x st := ⟨f, _, fun_mk l c k, PySem.W.mg_of X G a⟩
/-- .. and keeps its promise -/
def Dk (P : Program) (w : World) (K : PySem.W.Frag) (mg : Str → Option Value) (base : Heap) (x : Str) (st : Stmt) (k : Nat) (ps : List Str) (sp : Sp) : Prop :=
  ∃ f fd, Fun K x x st f fd ∧ mg x = some (.ref f) ∧ FnG P w K mg base CX0 k f fd ps sp ∧ Binds K fd ps []
theorem Fun.kb {K : PySem.W.Frag} {x qual : Str} {st : Stmt} {f : Addr} {fd : FuncData} {ps ks : List Str} {n : Nat} {ix : List Nat} (F : Fun K x qual st f fd)
    (h : ∀ (kV doc pm : Value) (an : Option Addr) (cdv ct : Value) (us ws : List Value), us.length = n → ws.length = ks.length → bindArgs (PySem.W.fnOf x qual (defArgs st) (defBody st) (defScope st) .none kV doc pm an cdv ct) ⟨us, ks.zip ws⟩ = pure (ps.zip (pick ix (us ++ ws)))) : KB K fd ps n ks ix := by
  obtain ⟨oc, od, kV, doc, pm, an, cdv, ct, osl, rfl, lk, hcd⟩ := F.ex
  exact fun s us ws _ h1 h2 => .of_eq (h kV doc pm an cdv ct us ws h1 h2)

/-! ### the layer's rules, the written part told -/
section
variable {X : Cx} {tg : Expr}
theorem k_ixL (K : PySem.W.Frag) (h : X.K = K := by rfl) : IxR X (rIxL K) := h ▸ ix_list
theorem k_ixT (K : PySem.W.Frag) (h : X.K = K := by rfl) : IxR X (rIxT K) := h ▸ ix_tup
theorem k_sum (K : PySem.W.Frag) (hc : X.calm = true := by rfl) (h : X.K = K := by rfl) : CallR X (.builtin "sum") (rSum K) := h ▸ cr_sum hc
theorem k_min (K : PySem.W.Frag) (hc : X.calm = true := by rfl) (h : X.K = K := by rfl) : CallR X (.builtin "min") (rMin K) := h ▸ cr_min hc
theorem k_max (K : PySem.W.Frag) (hc : X.calm = true := by rfl) (h : X.K = K := by rfl) : CallR X (.builtin "max") (rMax K) := h ▸ cr_max hc
theorem k_all (K : PySem.W.Frag) (hc : X.calm = true := by rfl) (h : X.K = K := by rfl) : CallR X (.builtin "all") (rAll K) := h ▸ cr_all hc
theorem k_any (K : PySem.W.Frag) (hc : X.calm = true := by rfl) (h : X.K = K := by rfl) : CallR X (.builtin "any") (rAny K) := h ▸ cr_any hc
theorem k_len (K : PySem.W.Frag) (h : X.K = K := by rfl) : CallR X (.builtin "len") (fun xs H Q => ∃ p ys, xs = [.ref p] ∧ (SqL K H p ys ∨ SqT K H p ys) ∧ Q (.int ys.length) H) := h ▸ call_len_seq
theorem k_tupOf (K : PySem.W.Frag) (h : X.K = K := by rfl) : CallR X (.type "tuple") (rTupOf K) := h ▸ call_tuple_of
theorem k_listOf (K : PySem.W.Frag) (h : X.K = K := by rfl) : CallR X (.type "list") (fun xs H Q => ∃ p ys, xs = [.ref p] ∧ (SqL K H p ys ∨ SqT K H p ys) ∧ ∀ l, H l = none → Q (.ref l) (upd H l (.lst ys))) := h ▸ call_list_of
theorem k_repr {k : Nat} (K : PySem.W.Frag) (hr : Room k X.A) (gd : X.A.guards = some []) (nd : X.base.NoDigits) (h : X.K = K := by rfl) : CallR X (.builtin "repr") (rRepr K) := h ▸ call_repr hr gd nd
theorem k_in (K : PySem.W.Frag) (h : X.K = K := by rfl) : OpR X (compareOp .In) (rIn K false) := h ▸ op_in_seq
theorem k_notin (K : PySem.W.Frag) (h : X.K = K := by rfl) : OpR X (compareOp .NotIn) (rIn K true) := h ▸ op_notIn_seq
theorem k_pil (K : PySem.W.Frag) {l : Expr} {tl : TE} (hl : PE X l tl) (h : X.K = K := by rfl) : PI X tg l (iList K tl) := h ▸ pi_list hl
theorem k_pit (K : PySem.W.Frag) {l : Expr} {tl : TE} (hl : PE X l tl) (h : X.K = K := by rfl) : PI X tg l (iTup K tl) := h ▸ pi_tup hl
theorem k_pie (K : PySem.W.Frag) {e : Expr} {ta : TA} {p pos tpos : Pos} {elts : List Expr} {kk : Nat} (hg : Gl X "enumerate") (hm : X.mg "enumerate" = none) (ha : PA X [e] ta) (hs : starEach [e] X.env = [(false, eval e X.env)] := by rfl) (h : X.K = K := by rfl) :
    PI X (.Tuple elts kk tpos) (.Call (.Name "enumerate" p) [e] [] pos) (iEnum K ta) := h ▸ pi_enum hg hm ha hs
theorem k_piz (K : PySem.W.Frag) {e e2 : Expr} {ta : TA} {p pos tpos : Pos} {elts : List Expr} {kk : Nat} (hg : Gl X "zip") (hm : X.mg "zip" = none) (ha : PA X [e, e2] ta)
    (hs : starEach [e, e2] X.env = (false, eval e X.env) :: starEach [e2] X.env := by rfl) (hpl : (backTo pos (starEach [e2] X.env)).any (·.1) = false := by rfl) (h : X.K = K := by rfl) :
    PI X (.Tuple elts kk tpos) (.Call (.Name "zip" p) [e, e2] [] pos) (iZip K ta) := h ▸ pi_zip hg hm ha hs hpl
theorem k_gt (K : PySem.W.Frag) {es : List Expr} {k : Nat} {pos : Pos} {t : TGs} {n : Nat} (h : PGs X es t) (hc : X.calm = true := by rfl)
    (hn : (assignEach es X.env).length = n := by rfl) (hst : (assignEach es X.env).findIdx? (·.1) = none := by rfl) (hK : X.K = K := by rfl) : PG X (.Tuple es k pos) (gTup K n t) := hK ▸ pg_tup hc h hn hst
end

/-! ### ranges with a step, enumerate -/
section
variable {μ : Type → Type} {τ : Type} [Mir μ τ] {α β : Type} {p : Pt τ} {σ : St} {S H : Hp} {te ta tb tc : TE} {K : PySem.W.Frag}
def Rg3 (i j c : Int) : Prop := c ≠ 0 ∧ c.natAbs < 1073741824 ∧ Builtin.Range.small i j c = true ∧ 0 ≤ Builtin.Range.rangeSize i j c
instance (i j c : Int) : Decidable (Rg3 i j c) := inferInstanceAs (Decidable (_ ∧ _))
def rng3 (i j c : Int) : List Int := (List.range (Builtin.Range.rangeSize i j c).toNat).map fun (k : Nat) => i + (k : Int) * c
theorem it_rng3 {lo c : Int} {n : Nat} {O : Own} : ItOk p (Itc lo c n) ((List.range n).map fun (k : Nat) => lo + (k : Int) * c) rI S O := fun S1 H1 _ e2 _ => by
  refine ⟨fun i hi => by show i < n; simpa using hi, by show n ≤ _; simp, fun i x v H2 hx y => ?_⟩
  obtain ⟨e3, y⟩ := y
  subst e3
  subst y
  refine ⟨S1, Gm.rf e2, ?_⟩
  rw [List.getElem?_map] at hx
  have hi : i < n := by
    by_cases h : i < n
    · exact h
    · rw [List.getElem?_eq_none (by simpa using h)] at hx; cases hx
  rw [List.getElem?_eq_getElem (by simpa using hi)] at hx
  simp at hx
  show V.int _ = V.int _
  rw [← hx]
theorem i_R3 {m m' m'' : (Int → μ β) → μ β} (h : Ev p ta σ S H m rI) (h' : Ev p tb σ S H m' rI) (h'' : Ev p tc σ S H m'' rI) : EvI p (iRng3 (tCons ta (tCons tb (tCons tc tNil)))) σ S H (fun k => m fun i => m' fun j => m'' fun c => Mir.lft (grd (Rg3 i j c)) >>= fun _ => k (rng3 i j c)) rI [] := fun S1 H1 s g ps k z hm Q q =>
  h S1 H1 s g ps _ z hm _ fun i v S2 H2 s2 g2 p2 r hm2 => h' S2 H2 s2 (g.tr g2) p2 _ z hm2 _ fun j u S3 H3 s3 g3 p3 r3 hm3 => h'' S3 H3 s3 ((g.tr g2).tr g3) p3 _ z hm3 _ fun c y S4 H4 s4 g4 p4 r4 hm4 => by
    obtain ⟨_, e, hm5⟩ := run_of_lft hm4
    have hb := grd_of e
    cases (show v = .int i from r)
    cases (show u = .int j from r3)
    cases (show y = .int c from r4)
    exact ⟨i, j, c, (Builtin.Range.rangeSize i j c).toNat, rfl, ⟨hb.1, hb.2.1, hb.2.2.1, by have := hb.2.2.2; omega⟩, q _ _ S4 H4 s4 ((g2.tr g3).tr g4) p4 it_rng3 hm5⟩
def enum (xs : List α) : List (Int × α) := xs.zipIdx.map fun y => ((y.2 : Int), y.1)
theorem i_enum {m : (List α → μ β) → μ β} {R : Rp α} [Mo R] (h : Ev p te σ S H m (rL (aAll R))) : EvI p (iEnum K (tCons te tNil)) σ S H (fun k => m fun xs => k (enum xs)) (rT K (aCons rI (aOne R))) [] := fun S1 H1 s g ps k z hm Q q =>
  h S1 H1 s g ps _ z hm _ fun xs v S2 H2 s2 g2 p2 ⟨x, vs, e, h1, h2⟩ hm2 => ⟨x, vs, by rw [e], .of (g2.i _ _ h1), q _ _ S2 H2 s2 g2 p2 (fun S3 H3 e1 e2 _ => by
    have a2 : All R S2 xs vs := h2
    have hq : SqL K H3 x vs := .of (e2 _ _ (e1 _ _ h1))
    have ln : (enum xs).length = vs.length := by unfold enum; rw [List.length_map, List.length_zipIdx, a2.len]
    refine ⟨fun i hi => ⟨vs, vs[i]'(by rw [← ln]; exact hi), hq, List.getElem?_eq_getElem _⟩, ⟨vs, hq, by rw [ln]; exact Nat.le_refl _⟩, fun i y v H4 hx yl => ?_⟩
    obtain ⟨tp, u, e3, n, e4, yl⟩ := yl
    subst e3
    subst e4
    have hu := yl vs hq
    have hx' : xs.zipIdx[i]? = some (y.2, i) ∧ y.1 = (i : Int) := by
      unfold enum at hx
      rw [List.getElem?_map] at hx
      cases q2 : xs.zipIdx[i]? with
      | none => rw [q2] at hx; cases hx
      | some c =>
        rw [q2] at hx
        have e5 := Option.some.inj hx
        rw [List.getElem?_zipIdx] at q2
        cases q3 : xs[i]? with
        | none => rw [q3] at q2; cases q2
        | some d =>
          rw [q3] at q2
          have e6 := Option.some.inj q2
          rw [← e5, ← e6]
          simp
    rw [List.getElem?_zipIdx] at hx'
    obtain ⟨hx1, hx2⟩ := hx'
    have hx3 : xs[i]? = some y.2 := by
      cases q3 : xs[i]? with
      | none => rw [q3] at hx1; cases hx1
      | some d => rw [q3] at hx1; have := Option.some.inj hx1; simp at this; rw [this]
    obtain ⟨u', hu', ru⟩ := a2.get hx3
    rw [hu] at hu'
    cases hu'
    refine ⟨upd S3 tp (.tup [.int (i : Nat), u]), Gm.new e2 n, tp, _, rfl, .of upd_same, _, _, rfl, ?_, _, rfl, Mo.mo (e1.tr (Gm.new (M := []) e2 n).s) ru⟩
    show V.int _ = V.int _
    rw [hx2]) hm2⟩
end
end Wk
set_option Elab.async false
set_option maxRecDepth 100000
set_option maxHeartbeats 4000000
set_option linter.all false
/-! W6: == and != of data, the pot -/
namespace Wk
open PySem L2
open PyProof.Rows hiding St
section
variable {μ : Type → Type} {τ : Type} [Mir μ τ] {α β γ : Type} {p : Pt τ} {σ : St} {S H : Hp} {te ta tb : TE} {K : PySem.W.Frag}
/-- data that can be read for a while -/
def EvD (K : PySem.W.Frag) (p : Pt τ) (te : TE) (σ : St) (S H : Hp) (m : (PyData → μ β) → μ β) : Prop :=
  ∀ S1 H1 s, Gm p.M S H S1 H1 → PotAt p s S1 H1 → ∀ (k : PyData → μ β) z, Mir.run (m k) s = some z → ∀ Q : VK,
    (∀ d v S2 H2 s2, Gm p.M S1 H1 S2 H2 → PotAt p s2 S2 H2 → (∀ S3 H3, Gm p.M S2 H2 S3 H3 → Dp K H3 v d) → Mir.run (k d) s2 = some z → Q v H2) → te σ H1 Q
theorem Ev.D {R : Rp α} [Mo R] {d : α → PyData} {m : (α → μ β) → μ β} (h : Ev p te σ S H m R) (hd : isD K R d) : EvD K p te σ S H (fun k => m fun a => k (d a)) := fun S1 H1 s g ps k z hm Q q =>
  h S1 H1 s g ps _ z hm _ fun a v S2 H2 s2 g2 p2 r hm2 => q (d a) v S2 H2 s2 g2 p2 (fun S3 H3 g3 => hd a v S3 H3 (Mo.mo g3.s r) g3.i) hm2
theorem EvR.D {A : Rq α} [Mo A] {d : α → List PyData} {m : (α → μ β) → μ β} (h : EvR p te σ S H m A) (hd : isDs K A d) : EvD K p te σ S H (fun k => m fun a => k (.list (d a))) := fun S1 H1 s g ps k z hm Q q =>
  h S1 H1 s g ps _ z hm _ fun a x vs S2 H2 s2 g2 p2 e m2 r hm2 => q (.list (d a)) (.ref x) S2 H2 s2 g2 p2 (fun S3 H3 g3 => .lst (.of (g3.h _ _ m2 e)) (hd a vs S3 H3 (Mo.mo g3.s r) g3.i)) hm2
def ShD (d : PyData) : Prop := SeqAt.shaped d = true
instance (d : PyData) : Decidable (ShD d) := inferInstanceAs (Decidable (_ = true))
theorem e_eqD {m m' : (PyData → μ β) → μ β} (h : EvD K p ta σ S H m) (h' : EvD K p tb σ S H m') : Ev p (tOp (rEqD K) ta tb) σ S H (fun k => m fun d => m' fun e => Mir.lft (grd (ShD d ∧ ShD e)) >>= fun _ => k (PyData.eqv d e)) rB := fun S1 H1 s g ps k z hm Q q =>
  h S1 H1 s g ps _ z hm _ fun d v S2 H2 s2 g2 p2 r hm2 => h' S2 H2 s2 (g.tr g2) p2 _ z hm2 _ fun e u S3 H3 s3 g3 p3 r3 hm3 => by
    obtain ⟨_, e1, hm4⟩ := run_of_lft hm3
    have hc := grd_of e1
    exact ⟨d, e, r _ _ g3, r3 _ _ (Gm.rf g3.i), hc.1, hc.2, q _ _ S3 H3 s3 (g2.tr g3) p3 rfl hm4⟩
theorem e_neD {m m' : (PyData → μ β) → μ β} (h : EvD K p ta σ S H m) (h' : EvD K p tb σ S H m') : Ev p (tOp (rNeD K) ta tb) σ S H (fun k => m fun d => m' fun e => Mir.lft (grd (ShD d ∧ ShD e)) >>= fun _ => k (!PyData.eqv d e)) rB := fun S1 H1 s g ps k z hm Q q =>
  h S1 H1 s g ps _ z hm _ fun d v S2 H2 s2 g2 p2 r hm2 => h' S2 H2 s2 (g.tr g2) p2 _ z hm2 _ fun e u S3 H3 s3 g3 p3 r3 hm3 => by
    obtain ⟨_, e1, hm4⟩ := run_of_lft hm3
    have hc := grd_of e1
    exact ⟨d, e, r _ _ g3, r3 _ _ (Gm.rf g3.i), hc.1, hc.2, q _ _ S3 H3 s3 (g2.tr g3) p3 rfl hm4⟩
end
section
variable {X : Cx}
theorem k_eqD {k : Nat} (K : PySem.W.Frag) (hr : Room k X.A) (h : X.K = K := by rfl) : OpR X (compareOp .Eq) (rEqD K) := h ▸ op_eqD hr.units
theorem k_neD {k : Nat} (K : PySem.W.Frag) (hr : Room k X.A) (h : X.K = K := by rfl) : OpR X (compareOp .NotEq) (rNeD K) := h ▸ op_neD hr.units
end

/-! ### the pot -/
structure PotT where
  great : List Int
  mix : Int
  turn : Int
structure PotI where
  a : Addr
  g : Addr
  ne : a ≠ g
def potOf (hd : Addr → Int → Int → HO) (i : PotI) : Pt PotT := ⟨[i.a, i.g], fun s => [(i.a, hd i.g s.mix s.turn), (i.g, .lst (s.great.map V.int))], fun _ => rfl, by simp [i.ne]⟩
/-- a dict, a list -/
def hdD (k1 : Str) (g : Addr) (x y : Int) : HO := .dK [(.inr "great", .ref g), (.inr k1, .int x), (.inr "turn", .int y)]
def hdL (g : Addr) (x y : Int) : HO := .lst [.ref g, .int x, .int y]
def rP (i : PotI) : Rp Unit := fun _ v _ => v = .ref i.a
instance (i : PotI) : Mo (rP i) := ⟨fun _ h => h⟩
def rG (i : PotI) : Rp Unit := fun _ v _ => v = .ref i.g
instance (i : PotI) : Mo (rG i) := ⟨fun _ h => h⟩
def potS : PM PotT PotT := fun s => some (s, s)
def potW (f : PotT → PotT) : PM PotT Unit := fun s => some ((), f s)
section
variable {hd : Addr → Int → Int → HO} {i : PotI} {s : PotT} {S H : Hp}
theorem pot_hd (ps : PotAt (potOf hd i) s S H) : H i.a = some (hd i.g s.mix s.turn) ∧ S i.a = none := ps (i.a, _) (List.mem_cons_self ..)
theorem pot_gr (ps : PotAt (potOf hd i) s S H) : H i.g = some (.lst (s.great.map V.int)) ∧ S i.g = none := ps (i.g, _) (List.mem_cons_of_mem _ (List.mem_cons_self ..))
theorem pot_mk (h1 : H i.a = some (hd i.g s.mix s.turn)) (h2 : S i.a = none) (h3 : H i.g = some (.lst (s.great.map V.int))) (h4 : S i.g = none) : PotAt (potOf hd i) s S H := fun c hc => by
  rcases List.mem_cons.mp hc with e | hc
  · subst e; exact ⟨h1, h2⟩
  · rcases List.mem_cons.mp hc with e | hc
    · subst e; exact ⟨h3, h4⟩
    · exact nomatch hc
theorem Gm.inM {M : List Addr} {q : Addr} {u o : HO} (e : Ex S H) (hq : H q = some u) (hs : S q = none) (hM : q ∈ M) : Gm M S H S (upd H q o) := by
  refine ⟨Ex.rf, fun a x h => ?_, fun a x m h => ?_, fun a x h n => n, fun a x h => ?_⟩
  · rw [upd_ne (by rintro rfl; rw [hs] at h; cases h)]; exact e a x h
  · rw [upd_ne (by rintro rfl; exact m hM)]; exact h
  · by_cases z : a = q
    · subst z; exact ⟨o, upd_same⟩
    · exact ⟨x, by rw [upd_ne z]; exact h⟩
theorem pot_pg (e : Ex S H) (ps : PotAt (potOf hd i) s S H) (l : List Int) : PotAt (potOf hd i) { s with great := l } S (upd H i.g (.lst (l.map V.int))) ∧ Gm (potOf hd i).M S H S (upd H i.g (.lst (l.map V.int))) := by
  obtain ⟨h1, h2⟩ := pot_hd ps
  obtain ⟨h3, h4⟩ := pot_gr ps
  exact ⟨pot_mk (by rw [upd_ne i.ne]; exact h1) h2 upd_same h4, Gm.inM e h3 h4 (by simp [potOf])⟩
theorem pot_ph (e : Ex S H) (ps : PotAt (potOf hd i) s S H) (x y : Int) : PotAt (potOf hd i) { s with mix := x, turn := y } S (upd H i.a (hd i.g x y)) ∧ Gm (potOf hd i).M S H S (upd H i.a (hd i.g x y)) := by
  obtain ⟨h1, h2⟩ := pot_hd ps
  obtain ⟨h3, h4⟩ := pot_gr ps
  exact ⟨pot_mk upd_same h2 (by rw [upd_ne (Ne.symm i.ne)]; exact h3) h4, Gm.inM e h1 h2 (by simp [potOf])⟩
end
section
variable {β : Type} {hd : Addr → Int → Int → HO} {i : PotI} {σ : St} {S H : Hp} {te ta tb : TE} {K : PySem.W.Frag} {k1 : Str} {z : β × PotT} {L : List (Addr × HO)} {S0 H0 : Hp} {s : PotT} {tz : TS} {D : Ends}
/-- what is asked of the state -/
theorem e_pot {R : Rp α} (f : PotT → α) (rd : ∀ s S1 H1, Ex S1 H1 → PotAt (potOf hd i) s S1 H1 → ∀ Q : VK, (∀ v, R (f s) v S1 → Q v H1) → te σ H1 Q) : Ev (μ := PM PotT) (β := β) (potOf hd i) te σ S H (fun k => potS >>= fun s => k (f s)) R := fun S1 H1 s g ps k z hm Q q =>
  rd s S1 H1 g.i ps Q fun v r => q (f s) v S1 H1 s (Gm.rf g.i) ps r hm
/-! as a dict -/
theorem gt_ne : ("great" : Str) ≠ "turn" := by decide
theorem dD_G {j : Nat} (e : σ[j]? = some (some (.ref i.a))) : Ev (μ := PM PotT) (β := β) (potOf (hdD k1) i) (tDGet (tVar j) (tC (.str "great"))) σ S H (fun k => k ()) (rG i) := fun S1 H1 s g ps k z hm Q q =>
  ⟨.ref i.a, e, i.a, _, rfl, by have q1 := DGet.k (k := Sum.inr "great") (pot_hd ps).1; rw [valV_pos rfl] at q1; exact q1, q () _ S1 H1 s (Gm.rf g.i) ps rfl hm⟩
theorem dD_S {j : Nat} (e : σ[j]? = some (some (.ref i.a))) (hk : k1 ≠ "great" := by decide) : Ev (μ := PM PotT) (β := β) (potOf (hdD k1) i) (tDGet (tVar j) (tC (.str k1))) σ S H (fun k => potS >>= fun s => k s.mix) rI :=
  e_pot (α := Int) (fun s => s.mix) fun s S1 H1 ex ps Q q => ⟨.ref i.a, e, i.a, .int s.mix, rfl, by have q1 := DGet.k (k := Sum.inr k1) (pot_hd ps).1; rw [valV_neg (fun h => hk (Sum.inr.inj h).symm), valV_pos rfl] at q1; exact q1, q _ rfl⟩
theorem dD_T {j : Nat} (e : σ[j]? = some (some (.ref i.a))) (hk : k1 ≠ "turn" := by decide) : Ev (μ := PM PotT) (β := β) (potOf (hdD k1) i) (tDGet (tVar j) (tC (.str "turn"))) σ S H (fun k => potS >>= fun s => k s.turn) rI :=
  e_pot (α := Int) (fun s => s.turn) fun s S1 H1 ex ps Q q => ⟨.ref i.a, e, i.a, .int s.turn, rfl, by have q1 := DGet.k (k := Sum.inr "turn") (pot_hd ps).1; rw [valV_neg (fun h => absurd (Sum.inr.inj h) gt_ne), valV_neg (fun h => hk (Sum.inr.inj h)), valV_pos rfl] at q1; exact q1, q _ rfl⟩
theorem qD_S {j : Nat} {m : (Int → PM PotT β) → PM PotT β} {k : PM PotT β} (w : Wd (potOf (hdD k1) i) S0 H0 S H L) (ps : PotAt (potOf (hdD k1) i) s S H) (e : σ[j]? = some (some (.ref i.a))) (h : Ev (potOf (hdD k1) i) te σ S H m rI)
    (hm : Mir.run (m fun a => potW (fun s => { s with mix := a }) >>= fun _ => k) s = some z) (hk : k1 ≠ "great") (hk2 : k1 ≠ "turn")
    (nx : ∀ S1 H1 s1, Wd (potOf (hdD k1) i) S0 H0 S1 H1 L → PotAt (potOf (hdD k1) i) s1 S1 H1 → Gm (potOf (hdD k1) i).M S H S1 H1 → Mir.run k s1 = some z → tz D σ H1) : tSeq (sDPut (tVar j) (tC (.str k1)) te) tz D σ H :=
  h S H s (Gm.rf w.i) ps _ z hm _ fun a v S1 H1 s1 g p1 r hm1 => by
    cases (show v = .int a from r)
    obtain ⟨u, s2, e1, hm2⟩ := run_of_bind hm1
    cases e1
    obtain ⟨p2, g2⟩ := pot_ph g.i p1 a s1.turn
    refine ⟨.ref i.a, e, i.a, _, rfl, DPut.k (k := Sum.inr k1) (pot_hd p1).1 (by rw [sizeLine_eq]; simp), ?_⟩
    have e2 : putK [(Sum.inr (α := Int) ("great" : Str), V.ref i.g), (.inr k1, .int s1.mix), (.inr "turn", .int s1.turn)] (.inr k1) (.int a) = [(.inr "great", .ref i.g), (.inr k1, .int a), (.inr "turn", .int s1.turn)] := by
      simp [putK, Ne.symm hk, Ne.symm hk2]
    rw [e2]
    exact nx S1 _ _ ((w.go g).go g2) p2 (g.tr g2) hm2
theorem qD_T {j : Nat} {m : (Int → PM PotT β) → PM PotT β} {k : PM PotT β} (w : Wd (potOf (hdD k1) i) S0 H0 S H L) (ps : PotAt (potOf (hdD k1) i) s S H) (e : σ[j]? = some (some (.ref i.a))) (h : Ev (potOf (hdD k1) i) te σ S H m rI)
    (hm : Mir.run (m fun a => potW (fun s => { s with turn := a }) >>= fun _ => k) s = some z) (hk2 : k1 ≠ "turn")
    (nx : ∀ S1 H1 s1, Wd (potOf (hdD k1) i) S0 H0 S1 H1 L → PotAt (potOf (hdD k1) i) s1 S1 H1 → Gm (potOf (hdD k1) i).M S H S1 H1 → Mir.run k s1 = some z → tz D σ H1) : tSeq (sDPut (tVar j) (tC (.str "turn")) te) tz D σ H :=
  h S H s (Gm.rf w.i) ps _ z hm _ fun a v S1 H1 s1 g p1 r hm1 => by
    cases (show v = .int a from r)
    obtain ⟨u, s2, e1, hm2⟩ := run_of_bind hm1
    cases e1
    obtain ⟨p2, g2⟩ := pot_ph g.i p1 s1.mix a
    refine ⟨.ref i.a, e, i.a, _, rfl, DPut.k (k := Sum.inr "turn") (pot_hd p1).1 (by rw [sizeLine_eq]; simp), ?_⟩
    have e2 : putK [(Sum.inr (α := Int) ("great" : Str), V.ref i.g), (.inr k1, .int s1.mix), (.inr "turn", .int s1.turn)] (.inr "turn") (.int a) = [(.inr "great", .ref i.g), (.inr k1, .int s1.mix), (.inr "turn", .int a)] := by
      simp [putK, hk2, gt_ne]
    rw [e2]
    exact nx S1 _ _ ((w.go g).go g2) p2 (g.tr g2) hm2
/-! the great ones -/
theorem ints_data {l : List Int} : ∀ {H : Hp}, DpAll K H (l.map V.int) (l.map PyData.int) := by
  intro H
  induction l with
  | nil => exact .nil
  | cons a l ih => exact .cons (.int a) ih
def neG (s : PotT) : Bool := !s.great.isEmpty
theorem shaped_ints (l : List Int) : SeqAt.shaped (.list (l.map PyData.int)) = true := by
  have h1 : ∀ l : List Int, PyData.canLayAll0 (l.map PyData.int) = true := by
    intro l
    induction l with
    | nil => rfl
    | cons a l ih => rw [List.map_cons]; unfold PyData.canLayAll0; rw [ih]; rfl
  have h2 : ∀ l : List Int, PyData.depthAll (l.map PyData.int) ≤ 1 := by
    intro l
    induction l with
    | nil => decide
    | cons a l ih => rw [List.map_cons]; unfold PyData.depthAll; simp [PyData.depth]; omega
  unfold SeqAt.shaped
  have h3 : (PyData.list (l.map PyData.int)).canLay0 = true := by unfold PyData.canLay0; exact h1 l
  have h4 : (PyData.list (l.map PyData.int)).depth ≤ 64 := by unfold PyData.depth; have := h2 l; omega
  rw [h3]; simpa using h4
/-- great != [] -/
theorem e_neG {m : (Unit → PM PotT β) → PM PotT β} (h : Ev (potOf hd i) te σ S H m (rG i)) : Ev (potOf hd i) (tOp (rNeD K) te (tLst tNil)) σ S H (fun k => m fun _ => potS >>= fun s => k (neG s)) rB := fun S1 H1 s g ps k z hm Q q =>
  h S1 H1 s g ps _ z hm _ fun _ v S2 H2 s2 g2 p2 r hm2 => ⟨by rw [sizeLine_eq]; decide, fun x hx => by
    cases (show v = .ref i.g from r)
    have g3 : Gm (potOf hd i).M S2 H2 S2 (upd H2 x (.lst [])) := Gm.own g2.i hx
    have p3 := p2.go (Gm.own (M := []) (o := .lst []) g2.i hx)
    refine ⟨.list (s2.great.map PyData.int), .list [], .lst (.of (pot_gr p3).1) ints_data, .lst (.of upd_same) .nil, shaped_ints _, by decide, ?_⟩
    refine q _ _ S2 _ s2 (g2.tr g3) p3 ?_ hm2
    show V.bl _ = V.bl _
    congr 1
    unfold neG
    cases s2.great with
    | nil => rfl
    | cons a l => rfl⟩
theorem ty_G {s : PotT} (ps : PotAt (potOf hd i) s S H) : tyV K "list" (.ref i.g) H := .inl ⟨rfl, _, .of (pot_gr ps).1⟩
/-- great.pop(0) -/
def popG : PM PotT Int := fun s => match s.great with | [] => none | c :: r => some (c, { s with great := r })
theorem e_pop0 {m : (Unit → PM PotT β) → PM PotT β} (h : Ev (potOf hd i) te σ S H m (rG i)) : Ev (potOf hd i) (tBM K "list" rPopAt te (tCons (tC (.int 0)) tNil)) σ S H (fun k => m fun _ => popG >>= k) rI := fun S1 H1 s g ps k z hm Q q =>
  h S1 H1 s g ps _ z hm _ fun _ v S2 H2 s2 g2 p2 r hm2 => by
    cases (show v = .ref i.g from r)
    refine ⟨ty_G p2, ?_⟩
    obtain ⟨c, s3, e1, hm3⟩ := run_of_bind hm2
    have e1 : popG s2 = some (c, s3) := e1
    unfold popG at e1
    cases e : s2.great with
    | nil => rw [e] at e1; cases e1
    | cons b l =>
      rw [e] at e1
      obtain ⟨rfl, rfl⟩ := Prod.mk.inj (Option.some.inj e1)
      obtain ⟨p3, g3⟩ := pot_pg g2.i p2 l
      refine ⟨i.g, s2.great.map V.int, 0, 0, .int b, rfl, rfl, (pot_gr p2).1, by decide, by decide, ?_, by rw [e]; rfl, ?_⟩
      · rw [e]; simp [seqIndex?]
      rw [show (s2.great.map V.int).eraseIdx 0 = l.map V.int by rw [e]; rfl]
      exact q b _ S2 _ _ (g2.tr g3) p3 rfl hm3
/-- great.insert(0, e) -/
theorem e_ins0 {m : (Unit → PM PotT β) → PM PotT β} {m' : (Int → PM PotT β) → PM PotT β} (h : Ev (potOf hd i) te σ S H m (rG i)) (h' : Ev (potOf hd i) ta σ S H m' rI) :
    Ev (potOf hd i) (tBM K "list" (fun x vs H Q => ∃ (l : Addr) (xs : List V) (i : Int) (y : V), x = .ref l ∧ vs = [.int i, y] ∧ H l = some (.lst xs) ∧ xs.length < sizeLine ∧ 0 ≤ i ∧ i < 2 ^ 63 ∧ Q .non (upd H l (.lst (xs.take i.toNat ++ [y] ++ xs.drop i.toNat)))) te (tCons (tC (.int 0)) (tCons ta tNil))) σ S H
      (fun k => m fun _ => m' fun a => potS >>= fun s => Mir.lft (grd (s.great.length < 16000000)) >>= fun _ => potW (fun s => { s with great := a :: s.great }) >>= k) rN := fun S1 H1 s g ps k z hm Q q =>
  h S1 H1 s g ps _ z hm _ fun _ v S2 H2 s2 g2 p2 r hm2 => by
    cases (show v = .ref i.g from r)
    refine ⟨ty_G p2, h' S2 H2 s2 (g.tr g2) p2 _ z hm2 _ fun a u S3 H3 s3 g3 p3 r3 hm3 => ?_⟩
    cases (show u = .int a from r3)
    obtain ⟨s4, s5, e1, hm4⟩ := run_of_bind hm3
    cases e1
    obtain ⟨_, e2, hm5⟩ := run_of_lft hm4
    have hl := grd_of e2
    obtain ⟨_, s6, e3, hm6⟩ := run_of_bind hm5
    cases e3
    obtain ⟨p4, g4⟩ := pot_pg g3.i p3 (a :: s3.great)
    refine ⟨i.g, s3.great.map V.int, 0, .int a, rfl, rfl, (pot_gr p3).1, by rw [List.length_map, sizeLine_eq]; omega, by decide, by decide, ?_⟩
    rw [show ((s3.great.map V.int).take (0 : Int).toNat ++ [V.int a] ++ (s3.great.map V.int).drop (0 : Int).toNat) = (a :: s3.great).map V.int by simp]
    exact q () _ S3 _ _ ((g2.tr g3).tr g4) p4 rfl hm6
/-- an expression for what it does -/
theorem q_dropE {α : Type} {m : (α → PM PotT β) → PM PotT β} {R : Rp α} {p : Pt PotT} {k : α → PM PotT β} (w : Wd p S0 H0 S H L) (ps : PotAt p s S H) (h : Ev p te σ S H m R) (hm : Mir.run (m k) s = some z)
    (nx : ∀ a S1 H1 s1, Wd p S0 H0 S1 H1 L → PotAt p s1 S1 H1 → Gm p.M S H S1 H1 → Mir.run (k a) s1 = some z → tz D σ H1) : tSeq (tDrop te) tz D σ H :=
  h S H s (Gm.rf w.i) ps _ z hm _ fun a v S1 H1 s1 g p1 r hm1 => nx a S1 H1 s1 (w.go g) p1 g hm1
end
end Wk
set_option Elab.async false
set_option maxRecDepth 100000
set_option maxHeartbeats 4000000
set_option linter.all false
/-! W7: slices, the script, the pot's making -/
namespace Wk
open PySem L2
open PyProof.Rows hiding St
section
variable {μ : Type → Type} {τ : Type} [Mir μ τ] {α β γ : Type} {p : Pt τ} {σ : St} {S H : Hp} {te ta tb : TE} {K : PySem.W.Frag}
/-- a part of a slice -/
def EvO (p : Pt τ) (to : TO) (σ : St) (S H : Hp) (m : (Option Int → μ β) → μ β) : Prop :=
  ∀ S1 H1 s, Gm p.M S H S1 H1 → PotAt p s S1 H1 → ∀ (k : Option Int → μ β) z, Mir.run (m k) s = some z → ∀ Q : Option Int → Hp → Prop,
    (∀ a S2 H2 s2, Gm p.M S1 H1 S2 H2 → PotAt p s2 S2 H2 → Mir.run (k a) s2 = some z → Q a H2) → to σ H1 Q
theorem o_no : EvO (μ := μ) (β := β) p tNoPart σ S H (fun k => k none) := fun _ _ _ g ps _ _ hm _ q => q _ _ _ _ (Gm.rf g.i) ps hm
theorem o_some {m : (Int → μ β) → μ β} (h : Ev p te σ S H m rI) : EvO p (tPart te) σ S H (fun k => m fun a => k (some a)) := fun S1 H1 s g ps k z hm Q q =>
  h S1 H1 s g ps _ z hm _ fun a v S2 H2 s2 g2 p2 r hm2 => ⟨a, r, q _ S2 H2 s2 g2 p2 hm2⟩
def cut (xs : List α) (lo hi : Option Int) : List α := (xs.drop (HT.sIx xs.length 0 lo)).take (HT.sIx xs.length xs.length hi - HT.sIx xs.length 0 lo)
theorem All.cut {R : Rp α} {xs : List α} {vs : List V} (h : All R S xs vs) (lo hi : Option Int) : All R S (cut xs lo hi) (cutV vs lo hi) := by
  unfold Wk.cut cutV
  rw [← h.len]
  exact (h.drop _).take _
theorem l_cut {R : Rp α} {m : (List α → μ β) → μ β} {ml mh : (Option Int → μ β) → μ β} {tl th : TO} [Mo R] (h : EvR p te σ S H m (aAll R)) (hl : EvO p tl σ S H ml) (hh : EvO p th σ S H mh) :
    EvL p (tSl (rSlL K) te tl th) σ S H (fun k => m fun xs => ml fun lo => mh fun hi => k (cut xs lo hi)) (aAll R) := fun S1 H1 s g ps k z hm Q q =>
  h S1 H1 s g ps _ z hm _ fun xs x vs S2 H2 s2 g2 p2 e2 m2 r2 hm2 => hl S2 H2 s2 (g.tr g2) p2 _ z hm2 _ fun lo S3 H3 s3 g3 p3 hm3 => hh S3 H3 s3 ((g.tr g2).tr g3) p3 _ z hm3 _ fun hi S4 H4 s4 g4 p4 hm4 =>
    ⟨x, vs, rfl, .of (g4.h _ _ m2 (g3.h _ _ m2 e2)), fun y hy => by
      have g5 := (g2.tr g3).tr g4
      have n1 : H1 y = none := by
        cases e : H1 y with
        | none => rfl
        | some u => obtain ⟨u', e'⟩ := g5.t y u e; rw [hy] at e'; cases e'
      have a2 : All R S2 xs vs := r2
      exact q (cut xs lo hi) y (cutV vs lo hi) S4 _ s4 (g5.tr (Gm.own g4.i hy)) (p4.go (Gm.own g4.i hy)) n1 upd_same (g4.i.no hy) (new_nM p4 hy) ((a2.mo (g3.s.tr g4.s)).cut lo hi) hm4⟩
/-- the script -/
def rX (K : PySem.W.Frag) : Rp (List Int) := fun xs v S => ∃ a, v = .ref a ∧ SqL K S a (xs.map V.int)
instance (K : PySem.W.Frag) : Mo (rX K) := ⟨fun e ⟨a, h1, h2⟩ => ⟨a, h1, sqL_ex e h2⟩⟩
theorem c_lenX {m : (List Int → μ β) → μ β} (h : Ev p te σ S H m (rX K)) : Ev p (tCB (fun xs H Q => ∃ p ys, xs = [.ref p] ∧ (SqL K H p ys ∨ SqT K H p ys) ∧ Q (.int ys.length) H) (tCons te tNil)) σ S H (fun k => m fun xs => k (xs.length : Int)) rI := fun S1 H1 s g ps k z hm Q q =>
  h S1 H1 s g ps _ z hm _ fun xs v S2 H2 s2 g2 p2 ⟨x, e2, r2⟩ hm2 => by
    subst e2
    exact ⟨x, _, rfl, .inl (sqL_ex g2.i r2), q _ _ S2 H2 s2 g2 p2 (by show V.int _ = V.int _; rw [List.length_map]) hm2⟩
theorem l_cutX {m : (List Int → μ β) → μ β} {ml mh : (Option Int → μ β) → μ β} {tl th : TO} (h : Ev p te σ S H m (rX K)) (hl : EvO p tl σ S H ml) (hh : EvO p th σ S H mh) :
    EvL p (tSl (rSlL K) te tl th) σ S H (fun k => m fun xs => ml fun lo => mh fun hi => k (cut xs lo hi)) (aAll rI) := fun S1 H1 s g ps k z hm Q q =>
  h S1 H1 s g ps _ z hm _ fun xs v S2 H2 s2 g2 p2 ⟨x, e2, r2⟩ hm2 => hl S2 H2 s2 (g.tr g2) p2 _ z hm2 _ fun lo S3 H3 s3 g3 p3 hm3 => hh S3 H3 s3 ((g.tr g2).tr g3) p3 _ z hm3 _ fun hi S4 H4 s4 g4 p4 hm4 =>
    ⟨x, _, e2, sqL_ex ((g3.s.tr g4.s).tr g4.i) r2, fun y hy => by
      have g5 := (g2.tr g3).tr g4
      have n1 : H1 y = none := by
        cases e : H1 y with
        | none => rfl
        | some u => obtain ⟨u', e'⟩ := g5.t y u e; rw [hy] at e'; cases e'
      exact q (cut xs lo hi) y (cutV (xs.map V.int) lo hi) S4 _ s4 (g5.tr (Gm.own g4.i hy)) (p4.go (Gm.own g4.i hy)) n1 upd_same (g4.i.no hy) (new_nM p4 hy) ((All.ofInts xs).cut lo hi) hm4⟩
end
section
variable {X : Cx}
theorem k_sll (K : PySem.W.Frag) (h : X.K = K := by rfl) : SlR X (rSlL K) := h ▸ sl_list
end
section
variable {β : Type} {σ : St} {S H S0 H0 : Hp} {te t1 t2 : TE} {K : PySem.W.Frag} {k1 : Str} {z : β × Unit} {hd : Addr → Int → Int → HO} {tz : TS} {D : Ends} {L : List (Addr × HO)} {s : Unit}
/-- a new pot -/
def EvP (hd : Addr → Int → Int → HO) (te : TE) (σ : St) (S H : Hp) (m : (PotT → Option β) → Option β) : Prop := ∀ S1 H1, Gm [] S H S1 H1 → ∀ (k : PotT → Option β) z, Mir.run (m k) () = some z → ∀ Q : VK,
  (∀ s i S2 H2, Gm [] S1 H1 S2 H2 → PotAt (potOf hd i) s S2 H2 → H1 i.a = none → H1 i.g = none → Mir.run (k s) () = some z → Q (.ref i.a) H2) → te σ H1 Q
theorem back_none {S H S' H' : Hp} {M : List Addr} (g : Gm M S H S' H') {x : Addr} (hx : H' x = none) : H x = none := by
  cases e : H x with
  | none => rfl
  | some u => obtain ⟨u', e'⟩ := g.t x u e; rw [hx] at e'; cases e'
theorem pot_disp {m1 : (List Int → Option β) → Option β} {m2 : (Int → Option β) → Option β} (h1 : EvL pt0 t1 σ S H m1 (aAll rI)) (h2 : Ev pt0 t2 σ S H m2 rI) (hk : k1 ≠ "great") (hk2 : k1 ≠ "turn") :
    EvP (hdD k1) (tDisp [(tC (.str "great"), t1), (tC (.str k1), t2), (tC (.str "turn"), tC (.int 0))]) σ S H (fun k => m1 fun l => m2 fun x => k ⟨l, x, 0⟩) := fun S1 H1 g k z hm Q q p hp => by
  have g2 : Gm [] S1 H1 S1 (upd H1 p (.dK [])) := Gm.own g.i hp
  show t1 σ _ _
  refine h1 S1 _ () (g.tr g2) pot0' _ z hm _ fun l q1 vs S3 H3 _ g3 _ n3 e3 s3 _ r3 hm3 => ?_
  show t2 σ _ _
  refine h2 S3 H3 () ((g.tr g2).tr g3) pot0' _ z hm3 _ fun x v S4 H4 _ g4 _ r4 hm4 => ?_
  cases (show v = .int x from r4)
  have ed : H4 p = some (.dK []) := g4.h _ _ (by simp [pt0]) (g3.h _ _ (by simp [pt0]) upd_same)
  have eg : H4 q1 = some (.lst vs) := g4.h _ _ (by simp [pt0]) e3
  have sp : S4 p = none := (g3.tr g4).f _ _ upd_same (g.i.no hp)
  have sg : S4 q1 = none := g4.f _ _ e3 s3
  have ne : p ≠ q1 := by
    rintro rfl
    rw [upd_same] at n3
    cases n3
  refine ⟨ed, [(.inr "great", .ref q1), (.inr k1, .int x), (.inr "turn", .int 0)], rfl, by simp, ?_⟩
  have em : mergeK ([] : List (Key × V)) [(.inr "great", .ref q1), (.inr k1, .int x), (.inr "turn", .int 0)] = [(.inr "great", .ref q1), (.inr k1, .int x), (.inr "turn", .int 0)] := by
    simp [mergeK, putK, Ne.symm hk, hk, hk2, gt_ne]
  rw [em]
  have hv : vs = l.map V.int := All.ints r3
  subst hv
  refine q ⟨l, x, 0⟩ ⟨p, q1, ne⟩ S4 _ ⟨((g2.tr g3).tr g4).s, fun a u e => ?_, fun a u _ e => ?_, ((g2.tr g3).tr g4).f, fun a u e => ?_⟩ (pot_mk upd_same sp (by rw [upd_ne (Ne.symm ne)]; exact eg) sg) hp ?_ hm4
  · rw [upd_ne (by rintro rfl; rw [sp] at e; cases e)]; exact g4.i a u e
  · rw [upd_ne (by rintro rfl; rw [hp] at e; cases e)]
    exact ((g2.tr g3).tr g4).h a u (by simp) e
  · by_cases z : a = p
    · subst z; rw [hp] at e; cases e
    · obtain ⟨u', e'⟩ := ((g2.tr g3).tr g4).t a u e
      exact ⟨u', by rw [upd_ne z]; exact e'⟩
  · exact back_none g2 n3
theorem q_retP {m : (PotT → Option β) → Option β} {k : PotT → Option β} (w : Wd pt0 S0 H0 S H L) (h : EvP hd te σ S H m) (hm : Mir.run (m fun a => bnd a k) () = some z)
    (nx : ∀ s i S1 H1, Gm [] S0 H0 S1 H1 → PotAt (potOf hd i) s S1 H1 → H0 i.a = none → H0 i.g = none → Mir.run (k s) () = some z → D.rt (.ref i.a) H1) : tSeq (tRet te) tz D σ H :=
  h S H (Gm.rf w.i) _ z hm _ fun s i S1 H1 g1 p1 n1 n2 hm1 => nx s i S1 H1 (w.g.tr g1) p1 (back_none w.g n1) (back_none w.g n2) hm1
def spP (hd : Addr → Int → Int → HO) (fm : List Int → Option PotT) (K : PySem.W.Frag) : Sp := fun vs H Q _ => ∃ a S s, Ex S H ∧ (aOne (rX K)) a vs S ∧ fm a = some s ∧
  ∀ i S' H', Gm [] S H S' H' → PotAt (potOf hd i) s S' H' → H i.a = none → H i.g = none → Q (.ref i.a) H'
/-- the law's first line -/
theorem q_pot {fm : List Int → Option PotT} {j : Nat} {v : V} {a : List Int} {s : PotT} (ex : Ex S H) (e : σ[0]? = some (some v)) (r : rX K a v S) (hf : fm a = some s) (σ' : V → St) (hσ : ∀ v, σ.set j (some v) = σ' v)
    (nx : ∀ i S1 H1, Wd (potOf hd i) S1 H1 S1 H1 [] → PotAt (potOf hd i) s S1 H1 → Ex S S1 → tz D (σ' (.ref i.a)) H1) : tSeq (tAsg (tCall (spP hd fm K) [] E0 (tCons (tVar 0) tNil)) (gName j)) tz D σ H :=
  ⟨v, e, a, S, s, ex, ⟨v, rfl, r⟩, hf, fun i S1 H1 g1 p1 _ _ => by
    have q := nx i S1 H1 (Wd.start g1.i) p1 g1.s
    rw [← hσ] at q
    exact q⟩
/-- the law's promise: its answer is True -/
def spLaw (K : PySem.W.Frag) (ok : List Int → Prop) : Sp := fun vs H Q _ => ∃ a, (aOne (rX K)) a vs H ∧ ok a ∧ ∀ H', Q (.bl true) H'
end
end Wk
set_option Elab.async false
set_option maxRecDepth 100000
set_option maxHeartbeats 4000000
set_option linter.all false
/-! W8: sums of tuples, the pot as a list -/
namespace Wk
open PySem L2
open PyProof.Rows hiding St
def rSumT (K : PySem.W.Frag) : List V → Hp → VK → Prop := fun vs H Q => ∃ (a : Addr) (ns : List Int), vs = [V.ref a] ∧ SqT K H a (ns.map V.int) ∧ Q (.int ns.sum) H
section
variable {X : Cx}
theorem cr_sumT (hc : X.calm = true) : CallR X (.builtin "sum") (rSumT X.K) := by
  intro pins s σ H vs us Q I r h
  obtain ⟨a, ns, rfl, hs, q⟩ := h
  obtain ⟨its, rv, ht, _⟩ := I.tuple hs
  rw [Vals.ref1 r]
  have ht : s.heap.IsTuple a its.toArray := by
    obtain ⟨o, ho, hcl, n, hd⟩ := ht
    exact ⟨o, ho, hcl, n, hd⟩
  have hi : IntsAre its ns := rv.ints
  obtain ⟨xs, hx⟩ := hi.allInts.items
  have hn : numsOf its.toArray.toList = ns := by rw [show its.toArray.toList = its from rfl, hi.numsOf]
  rw [hx] at ht hn
  rw [nums_intItems] at hn
  refine PySem.W.ktm_sumG (I.ok.hd hc) ht fun h' tk t' hk => ⟨.int ns.sum, H, I.kept hk, ?_, q⟩
  rw [preSum_eq, List.take_of_length_le (by simp), hn]
  exact ⟨_, rfl⟩
theorem k_sumT (K : PySem.W.Frag) (hc : X.calm = true := by rfl) (h : X.K = K := by rfl) : CallR X (.builtin "sum") (rSumT K) := h ▸ cr_sumT hc
end
section
variable {μ : Type → Type} {τ : Type} [Mir μ τ] {α β : Type} {p : Pt τ} {σ : St} {S H : Hp} {te ta tb : TE} {K : PySem.W.Frag}
theorem c_sumT {m : (List Int → μ β) → μ β} (h : Ev p te σ S H m (rT K (aAll rI))) : Ev p (tCB (rSumT K) (tCons te tNil)) σ S H (fun k => m fun xs => k xs.sum) rI := fun S1 H1 s g ps k z hm Q q =>
  h S1 H1 s g ps _ z hm _ fun xs v S2 H2 s2 g2 p2 ⟨x, vs, e2, h2, r2⟩ hm2 => ⟨x, xs, by rw [e2], by rw [← All.ints r2]; exact sqT_ex g2.i h2, q _ _ S2 H2 s2 g2 p2 rfl hm2⟩
end
section
variable {β : Type} {i : PotI} {σ : St} {S H S0 H0 : Hp} {te ta tb t1 t2 : TE} {K : PySem.W.Frag} {z : β × PotT} {L : List (Addr × HO)} {s : PotT} {tz : TS} {D : Ends} {hd : Addr → Int → Int → HO}
/-! as a list -/
theorem dL_ix {j : Nat} {c : Int} {v : V} (ps : PotAt (potOf hdL i) s S H) (e : σ[j]? = some (some (.ref i.a))) (hv : atI [V.ref i.g, .int s.mix, .int s.turn] c = some v) {Q : VK} (q : Q v H) : tOp (rIxL K) (tVar j) (tC (.int c)) σ H Q :=
  ⟨.ref i.a, e, i.a, _, c, v, rfl, rfl, .of (pot_hd ps).1, hv, q⟩
theorem dL_G {j : Nat} (e : σ[j]? = some (some (.ref i.a))) : Ev (μ := PM PotT) (β := β) (potOf hdL i) (tOp (rIxL K) (tVar j) (tC (.int 0))) σ S H (fun k => k ()) (rG i) := fun S1 H1 s g ps k z hm Q q =>
  dL_ix ps e rfl (q () _ S1 H1 s (Gm.rf g.i) ps rfl hm)
theorem dL_S {j : Nat} (e : σ[j]? = some (some (.ref i.a))) : Ev (μ := PM PotT) (β := β) (potOf hdL i) (tOp (rIxL K) (tVar j) (tC (.int 1))) σ S H (fun k => potS >>= fun s => k s.mix) rI :=
  e_pot (α := Int) (fun s => s.mix) fun s S1 H1 ex ps Q q => dL_ix ps e rfl (q _ rfl)
theorem dL_T {j : Nat} (e : σ[j]? = some (some (.ref i.a))) : Ev (μ := PM PotT) (β := β) (potOf hdL i) (tOp (rIxL K) (tVar j) (tC (.int 2))) σ S H (fun k => potS >>= fun s => k s.turn) rI :=
  e_pot (α := Int) (fun s => s.turn) fun s S1 H1 ex ps Q q => dL_ix ps e rfl (q _ rfl)
theorem qL_T {j : Nat} {m : (Int → PM PotT β) → PM PotT β} {k : PM PotT β} (w : Wd (potOf hdL i) S0 H0 S H L) (ps : PotAt (potOf hdL i) s S H) (e : σ[j]? = some (some (.ref i.a))) (h : Ev (potOf hdL i) te σ S H m rI)
    (hm : Mir.run (m fun a => potW (fun s => { s with turn := a }) >>= fun _ => k) s = some z)
    (nx : ∀ S1 H1 s1, Wd (potOf hdL i) S0 H0 S1 H1 L → PotAt (potOf hdL i) s1 S1 H1 → Gm (potOf hdL i).M S H S1 H1 → Mir.run k s1 = some z → tz D σ H1) : tSeq (tAsg te (gSub (tVar j) (tC (.int 2)) rSetL)) tz D σ H :=
  h S H s (Gm.rf w.i) ps _ z hm _ fun a v S1 H1 s1 g p1 r hm1 => by
    cases (show v = .int a from r)
    obtain ⟨u, s2, e1, hm2⟩ := run_of_bind hm1
    cases e1
    obtain ⟨p2, g2⟩ := pot_ph g.i p1 s1.mix a
    exact ⟨.ref i.a, e, i.a, _, 2, 2, rfl, rfl, (pot_hd p1).1, rfl, nx S1 _ _ ((w.go g).go g2) p2 (g.tr g2) hm2⟩
/-- great.pop() -/
def popL : PM PotT Int := fun s => match s.great.getLast? with | none => none | some c => some (c, { s with great := s.great.dropLast })
theorem e_popL {m : (Unit → PM PotT β) → PM PotT β} (h : Ev (potOf hd i) te σ S H m (rG i)) : Ev (potOf hd i) (tBM0 K "list" rPop te) σ S H (fun k => m fun _ => popL >>= k) rI := fun S1 H1 s g ps k z hm Q q =>
  h S1 H1 s g ps _ z hm _ fun _ v S2 H2 s2 g2 p2 r hm2 => by
    cases (show v = .ref i.g from r)
    refine ⟨ty_G p2, ?_⟩
    obtain ⟨c, s3, e1, hm3⟩ := run_of_bind hm2
    have e1 : popL s2 = some (c, s3) := e1
    unfold popL at e1
    cases e : s2.great.getLast? with
    | none => rw [e] at e1; cases e1
    | some b =>
      rw [e] at e1
      obtain ⟨rfl, rfl⟩ := Prod.mk.inj (Option.some.inj e1)
      obtain ⟨p3, g3⟩ := pot_pg g2.i p2 s2.great.dropLast
      refine ⟨i.g, s2.great.map V.int, .int b, rfl, rfl, (pot_gr p2).1, ?_, ?_⟩
      · rw [List.length_map, List.getElem?_map, ← List.getLast?_eq_getElem?, e]; rfl
      rw [← List.map_dropLast]
      exact q b _ S2 _ _ (g2.tr g3) p3 rfl hm3
/-- great.append(e) -/
theorem e_appG {m : (Unit → PM PotT β) → PM PotT β} {m' : (Int → PM PotT β) → PM PotT β} (h : Ev (potOf hd i) te σ S H m (rG i)) (h' : Ev (potOf hd i) ta σ S H m' rI) : Ev (potOf hd i) (tBM K "list" rAppend te (tCons ta tNil)) σ S H
      (fun k => m fun _ => m' fun a => potS >>= fun s => Mir.lft (grd (s.great.length < 16000000)) >>= fun _ => potW (fun s => { s with great := s.great ++ [a] }) >>= k) rN := fun S1 H1 s g ps k z hm Q q =>
  h S1 H1 s g ps _ z hm _ fun _ v S2 H2 s2 g2 p2 r hm2 => by
    cases (show v = .ref i.g from r)
    refine ⟨ty_G p2, h' S2 H2 s2 (g.tr g2) p2 _ z hm2 _ fun a u S3 H3 s3 g3 p3 r3 hm3 => ?_⟩
    cases (show u = .int a from r3)
    obtain ⟨s4, s5, e1, hm4⟩ := run_of_bind hm3
    cases e1
    obtain ⟨_, e2, hm5⟩ := run_of_lft hm4
    have hl := grd_of e2
    obtain ⟨_, s6, e3, hm6⟩ := run_of_bind hm5
    cases e3
    obtain ⟨p4, g4⟩ := pot_pg g3.i p3 (s3.great ++ [a])
    refine ⟨i.g, s3.great.map V.int, .int a, rfl, rfl, (pot_gr p3).1, by rw [List.length_map, sizeLine_eq]; omega, ?_⟩
    rw [show (s3.great.map V.int ++ [V.int a]) = (s3.great ++ [a]).map V.int by simp]
    exact q () _ S3 _ _ ((g2.tr g3).tr g4) p4 rfl hm6
end
section
variable {β : Type} {σ : St} {S H : Hp} {t1 t2 : TE}
theorem pot_lst {m1 : (List Int → Option β) → Option β} {m2 : (Int → Option β) → Option β} (h1 : EvL pt0 t1 σ S H m1 (aAll rI)) (h2 : Ev pt0 t2 σ S H m2 rI) :
    EvP hdL (tLst (tCons t1 (tCons t2 (tCons (tC (.int 0)) tNil)))) σ S H (fun k => m1 fun l => m2 fun x => k ⟨l, x, 0⟩) := fun S1 H1 g k z hm Q q => by
  refine h1 S1 H1 () g pot0' _ z hm _ fun l q1 vs S3 H3 _ g3 _ n3 e3 s3 _ r3 hm3 => ?_
  refine h2 S3 H3 () (g.tr g3) pot0' _ z hm3 _ fun x v S4 H4 _ g4 _ r4 hm4 => ?_
  cases (show v = .int x from r4)
  have eg : H4 q1 = some (.lst vs) := g4.h _ _ (by simp [pt0]) e3
  have sg : S4 q1 = none := g4.f _ _ e3 s3
  have hv : vs = l.map V.int := All.ints r3
  subst hv
  refine ⟨by rw [sizeLine_eq]; simp, fun p hp => ?_⟩
  have ne : p ≠ q1 := by
    rintro rfl
    rw [eg] at hp
    cases hp
  have g5 : Gm [] S4 H4 S4 (upd H4 p (.lst [.ref q1, .int x, .int 0])) := Gm.own g4.i hp
  exact q ⟨l, x, 0⟩ ⟨p, q1, ne⟩ S4 _ ((g3.tr g4).tr g5) (pot_mk upd_same (g4.i.no hp) (by rw [upd_ne (Ne.symm ne)]; exact eg) sg) (back_none (g3.tr g4) hp) n3 hm4
end
end Wk
set_option Elab.async false
set_option maxRecDepth 100000
set_option maxHeartbeats 4000000
set_option linter.all false
/-! M0: what a mirror gives, told by rules -/
namespace Wk
open PySem L2
open PyProof.Rows hiding St
section
variable {μ : Type → Type} {τ : Type} [Mir μ τ] {α β γ ζ ρ : Type} {s : τ} {P : β → τ → Prop}
/-- from s on m ends with a value and a state of P -/
def Tt (s : τ) (m : μ α) (P : α → τ → Prop) : Prop := ∃ a s1, Mir.run m s = some (a, s1) ∧ P a s1
theorem tt_pure {a : β} : Tt s (pure a : μ β) P ↔ P a s := by
  constructor
  · rintro ⟨b, s1, e, h⟩
    cases run_of_pure e
    exact h
  · intro h
    exact ⟨a, s, Mir.run_pure _ _, h⟩
theorem tt_bind {m : μ α} {k : α → μ β} : Tt s (m >>= k) P ↔ Tt s m (fun a s1 => Tt s1 (k a) P) := by
  constructor
  · rintro ⟨b, s1, e, h⟩
    obtain ⟨a, s2, e1, e2⟩ := run_of_bind e
    exact ⟨a, s2, e1, b, s1, e2, h⟩
  · rintro ⟨a, s2, e1, b, s1, e2, h⟩
    refine ⟨b, s1, ?_, h⟩
    rw [Mir.run_bind, e1]
    exact e2
theorem tt_grd {c : Prop} [Decidable c] {k : Unit → μ β} : Tt s (Mir.lft (grd c) >>= k) P ↔ c ∧ Tt s (k ()) P := by
  constructor
  · rintro ⟨b, s1, e, h⟩
    obtain ⟨u, e1, e2⟩ := run_of_lft e
    exact ⟨grd_of e1, b, s1, e2, h⟩
  · rintro ⟨hc, b, s1, e, h⟩
    refine ⟨b, s1, ?_, h⟩
    rw [Mir.run_bind, Mir.run_lft, grd, if_pos hc]
    exact e
theorem tt_grP {c : Prop} {k : Unit → μ β} : Tt s (Mir.lft (grP c) >>= k) P ↔ c ∧ Tt s (k ()) P := by
  constructor
  · rintro ⟨b, s1, e, h⟩
    obtain ⟨u, e1, e2⟩ := run_of_lft e
    exact ⟨grP_of e1, b, s1, e2, h⟩
  · rintro ⟨hc, b, s1, e, h⟩
    refine ⟨b, s1, ?_, h⟩
    rw [Mir.run_bind, Mir.run_lft, grP, if_pos hc]
    exact e
theorem tt_lft {o : Option α} {a : α} (e : o = some a) {k : α → μ β} : Tt s (Mir.lft o >>= k) P ↔ Tt s (k a) P := by
  subst e
  constructor
  · rintro ⟨b, s1, e, h⟩
    obtain ⟨u, e1, e2⟩ := run_of_lft e
    cases e1
    exact ⟨b, s1, e2, h⟩
  · rintro ⟨b, s1, e, h⟩
    refine ⟨b, s1, ?_, h⟩
    rw [Mir.run_bind, Mir.run_lft]
    exact e
theorem tt_bnd {a : α} {k : α → μ β} : Tt s (bnd a k) P ↔ Tt s (k a) P := Iff.rfl
theorem tt_ite {c : Prop} [Decidable c] {x y : μ β} : Tt s (if c then x else y) P ↔ if c then Tt s x P else Tt s y P := by
  by_cases h : c
  · rw [if_pos h, if_pos h]
  · rw [if_neg h, if_neg h]
theorem Tt.mono {m : μ β} {P' : β → τ → Prop} (h : Tt s m P) (i : ∀ a s1, P a s1 → P' a s1) : Tt s m P' := by
  obtain ⟨a, s1, e, q⟩ := h
  exact ⟨a, s1, e, i a s1 q⟩
theorem Tt.then {m : μ α} {k : α → μ β} {P' : α → τ → Prop} (h : Tt s m P') (i : ∀ a s1, P' a s1 → Tt s1 (k a) P) : Tt s (m >>= k) P := tt_bind.mpr (h.mono i)
theorem Tt.lft {o : Option α} {Q : α → Prop} (h : ∃ a, o = some a ∧ Q a) {k : α → μ β} (i : ∀ a, Q a → Tt s (k a) P) : Tt s (Mir.lft o >>= k) P := by
  obtain ⟨a, e, q⟩ := h
  exact (tt_lft e).mpr (i a q)
theorem Tt.pos {c : Prop} [Decidable c] {x y : μ β} (h : c) (i : Tt s x P) : Tt s (if c then x else y) P := by rw [if_pos h]; exact i
theorem Tt.neg {c : Prop} [Decidable c] {x y : μ β} (h : ¬ c) (i : Tt s y P) : Tt s (if c then x else y) P := by rw [if_neg h]; exact i
/-- a pure one -/
theorem tt_eq {m : Option α} {v : α} (h : Tt () m (fun a _ => a = v)) : m = some v := by
  obtain ⟨a, s1, e, rfl⟩ := h
  cases m with
  | none => cases e
  | some b => cases e; rfl
theorem tt_ex {m : Option α} {Q : α → Prop} (h : Tt () m (fun a _ => Q a)) : ∃ a, m = some a ∧ Q a := by
  obtain ⟨a, s1, e, q⟩ := h
  cases m with
  | none => cases e
  | some b => cases e; exact ⟨_, rfl, q⟩
theorem tt_of {m : Option α} {v : α} {P : α → Unit → Prop} (e : m = some v) (h : P v ()) : Tt () m P := by
  subst e
  exact ⟨v, (), rfl, h⟩

/-! ### loops -/
/-- while: I holds at the head, nu goes down, R behind -/
theorem Tt.wh {c : ζ → (Bool → μ ζ) → μ ζ} {b : ζ → μ ζ} {R : ζ → τ → Prop} (I : ζ → τ → Prop) (nu : ζ → Nat)
    (h : ∀ st s (k : Bool → μ ζ) (P : ζ → τ → Prop), I st s → (∀ t s1, (t = true → Tt s1 (b st) fun st' s2 => I st' s2 ∧ nu st' < nu st) → (t = false → R st s1) → Tt s1 (k t) P) → Tt s (c st k) P) :
    ∀ (n : Nat) (st : ζ) (s : τ), I st s → nu st < n → Tt s (whS n c b st) R
  | 0, st, s, _, hn => absurd hn (Nat.not_lt_zero _)
  | n + 1, st, s, hI, hn => by
    refine h st s _ _ hI fun t s1 h1 h2 => ?_
    cases t with
    | true =>
      refine Tt.pos rfl ((h1 rfl).then fun st' s2 q => ?_)
      exact Tt.wh I nu h n st' s2 q.1 (by omega)
    | false => exact Tt.neg (by simp) (tt_pure.mpr (h2 rfl))
theorem Tt.whC {c : ζ → (Bool → μ (Ctl ρ ζ)) → μ (Ctl ρ ζ)} {b : ζ → μ (Ctl ρ ζ)} {R : Ctl ρ ζ → τ → Prop} (I : ζ → τ → Prop) (nu : ζ → Nat)
    (h : ∀ st s (k : Bool → μ (Ctl ρ ζ)) (P : Ctl ρ ζ → τ → Prop), I st s → (∀ t s1, (t = true → Tt s1 (b st) fun o s2 => match o with | .go st' => I st' s2 ∧ nu st' < nu st | x => R x s2) → (t = false → R (.go st) s1) → Tt s1 (k t) P) → Tt s (c st k) P) :
    ∀ (n : Nat) (st : ζ) (s : τ), I st s → nu st < n → Tt s (Wk.whC n c b st) R
  | 0, st, s, _, hn => absurd hn (Nat.not_lt_zero _)
  | n + 1, st, s, hI, hn => by
    refine h st s _ _ hI fun t s1 h1 h2 => ?_
    cases t with
    | true =>
      refine Tt.pos rfl ((h1 rfl).then fun o s2 q => ?_)
      cases o with
      | go st' => exact Tt.whC I nu h n st' s2 q.1 (by have := q.2; omega)
      | brk x => exact tt_pure.mpr q
      | ret x => exact tt_pure.mpr q
    | false => exact Tt.neg (by simp) (tt_pure.mpr (h2 rfl))
/-- for: I tells what is left -/
theorem Tt.lp {f : α → ζ → μ ζ} (I : List α → ζ → τ → Prop) (h : ∀ x xs st s, I (x :: xs) st s → Tt s (f x st) (I xs)) : ∀ (xs : List α) (st : ζ) (s : τ), I xs st s → Tt s (lpS xs f st) (I [])
  | [], st, s, hI => tt_pure.mpr hI
  | x :: xs, st, s, hI => (h x xs st s hI).then fun st' s1 q => Tt.lp I h xs st' s1 q
theorem Tt.lpC {f : α → ζ → μ (Ctl ρ ζ)} {R : Ctl ρ ζ → τ → Prop} (I : List α → ζ → τ → Prop) (h : ∀ x xs st s, I (x :: xs) st s → Tt s (f x st) fun o s1 => match o with | .go st' => I xs st' s1 | y => R y s1)
    (h0 : ∀ st s, I [] st s → R (.go st) s) : ∀ (xs : List α) (st : ζ) (s : τ), I xs st s → Tt s (Wk.lpC xs f st) R
  | [], st, s, hI => tt_pure.mpr (h0 st s hI)
  | x :: xs, st, s, hI => (h x xs st s hI).then fun o s1 q => by
    cases o with
    | go st' => exact Tt.lpC I h h0 xs st' s1 q
    | brk y => exact tt_pure.mpr q
    | ret y => exact tt_pure.mpr q
theorem rng_step {lo hi : Int} (h : lo < hi) : rng lo hi = lo :: rng (lo + 1) hi := by
  unfold rng
  have e : (hi - lo).toNat = (hi - (lo + 1)).toNat + 1 := by omega
  rw [e, List.range_succ_eq_map, List.map_cons, List.map_map]
  congr 1
  · simp
  · apply List.map_congr_left
    intro k _
    simp only [Function.comp_apply]
    omega
theorem rng_no {lo hi : Int} (h : hi ≤ lo) : rng lo hi = [] := by
  unfold rng
  have e : (hi - lo).toNat = 0 := by omega
  rw [e]; rfl
theorem rng_len (lo hi : Int) : (rng lo hi).length = (hi - lo).toNat := by unfold rng; rw [List.length_map, List.length_range]
theorem mem_rng {lo hi x : Int} : x ∈ rng lo hi ↔ lo ≤ x ∧ x < hi := by
  unfold rng
  rw [List.mem_map]
  constructor
  · rintro ⟨k, hk, rfl⟩
    have := List.mem_range.mp hk
    omega
  · intro h
    exact ⟨(x - lo).toNat, List.mem_range.mpr (by omega), by omega⟩
/-- for x in range: I tells the place -/
theorem Tt.rg {f : Int → ζ → μ ζ} {hi : Int} (I : Int → ζ → τ → Prop) (h : ∀ x st s, x < hi → I x st s → Tt s (f x st) (I (x + 1))) : ∀ (n : Nat) (lo : Int) (st : ζ) (s : τ), lo + n = hi → I lo st s → Tt s (lpS (rng lo hi) f st) (I hi)
  | 0, lo, st, s, e, hI => by
    have : lo = hi := by omega
    subst this
    rw [rng_no (Int.le_refl _)]
    exact tt_pure.mpr hI
  | n + 1, lo, st, s, e, hI => by
    rw [rng_step (by omega)]
    exact (h lo st s (by omega) hI).then fun st' s1 q => Tt.rg I h n (lo + 1) st' s1 (by omega) q
theorem Tt.rgC {f : Int → ζ → μ (Ctl ρ ζ)} {hi : Int} {R : Ctl ρ ζ → τ → Prop} (I : Int → ζ → τ → Prop) (h : ∀ x st s, x < hi → I x st s → Tt s (f x st) fun o s1 => match o with | .go st' => I (x + 1) st' s1 | y => R y s1)
    (h0 : ∀ st s, I hi st s → R (.go st) s) : ∀ (n : Nat) (lo : Int) (st : ζ) (s : τ), lo + n = hi → I lo st s → Tt s (Wk.lpC (rng lo hi) f st) R
  | 0, lo, st, s, e, hI => by
    have : lo = hi := by omega
    subst this
    rw [rng_no (Int.le_refl _)]
    exact tt_pure.mpr (h0 _ _ hI)
  | n + 1, lo, st, s, e, hI => by
    rw [rng_step (by omega)]
    refine (h lo st s (by omega) hI).then fun o s1 q => ?_
    cases o with
    | go st' => exact Tt.rgC I h h0 n (lo + 1) st' s1 (by omega) q
    | brk y => exact tt_pure.mpr q
    | ret y => exact tt_pure.mpr q
/-- a comprehension: I tells what is left, what was found -/
theorem Tt.cmp {f : α → μ (Option γ)} {R : List γ → τ → Prop} (I : List α → List γ → τ → Prop) (h : ∀ x xs ys s, I (x :: xs) ys s → Tt s (f x) fun o s1 => I xs (ys ++ o.toList) s1) (h0 : ∀ ys s, I [] ys s → R ys s) : ∀ (xs : List α) (ys : List γ) (s : τ), I xs ys s → Tt s (Wk.cmp xs f) fun l s1 => R (ys ++ l) s1
  | [], ys, s, hI => tt_pure.mpr (by rw [List.append_nil]; exact h0 _ _ hI)
  | x :: xs, ys, s, hI => (h x xs ys s hI).then fun o s1 q => (Tt.cmp I h h0 xs _ s1 q).then fun l s2 r => tt_pure.mpr (by
      have e : ys ++ cns o l = ys ++ o.toList ++ l := by cases o <;> simp [cns]
      rw [e]; exact r)
/-- .. each item by itself -/
theorem tt_map {f : α → μ (Option γ)} {g : α → γ} : ∀ {xs : List α} {k : List γ → μ β}, (∀ x ∈ xs, ∀ s (Q : Option γ → τ → Prop), Q (some (g x)) s → Tt s (f x) Q) → (Tt s (k (xs.map g)) P → Tt s (Wk.cmp xs f >>= k) P) := by
  intro xs k h hk
  refine Tt.then (P' := fun l s1 => l = xs.map g ∧ s1 = s) ?_ (fun l s1 q => by rw [q.1, q.2]; exact hk)
  clear hk
  induction xs with
  | nil => exact tt_pure.mpr ⟨rfl, rfl⟩
  | cons x xs ih =>
    refine tt_bind.mpr (h x (List.mem_cons_self ..) s _ ?_)
    refine (ih fun y hy => h y (List.mem_cons_of_mem _ hy)).then fun l s1 q => tt_pure.mpr ⟨?_, q.2⟩
    rw [q.1]; rfl
theorem tt_filterMap {f : α → μ (Option γ)} {g : α → Option γ} : ∀ {xs : List α} {k : List γ → μ β}, (∀ x ∈ xs, ∀ s (Q : Option γ → τ → Prop), Q (g x) s → Tt s (f x) Q) → (Tt s (k (xs.filterMap g)) P → Tt s (Wk.cmp xs f >>= k) P) := by
  intro xs k h hk
  refine Tt.then (P' := fun l s1 => l = xs.filterMap g ∧ s1 = s) ?_ (fun l s1 q => by rw [q.1, q.2]; exact hk)
  clear hk
  induction xs with
  | nil => exact tt_pure.mpr ⟨rfl, rfl⟩
  | cons x xs ih =>
    refine tt_bind.mpr (h x (List.mem_cons_self ..) s _ ?_)
    refine (ih fun y hy => h y (List.mem_cons_of_mem _ hy)).then fun l s1 q => tt_pure.mpr ⟨?_, q.2⟩
    rw [q.1, List.filterMap_cons]
    cases g x <;> rfl
end
theorem lt_many {n : Nat} (h : n < 10 ^ 40) : n < many := by
  unfold many
  exact h
theorem sm_of {a : Int} (h1 : -10 ^ 4000 < a) (h2 : a < 10 ^ 4000) : Sm a := by
  refine Sm.of (n := 14000) ?_ (by decide) (by decide)
  have e : (10 : Nat) ^ 4000 ≤ 2 ^ 14000 := by decide +kernel
  have e2 : ((10 ^ 4000 : Nat) : Int) = 10 ^ 4000 := by push_cast; rfl
  generalize h3 : (10 : Nat) ^ 4000 = x at e e2
  generalize h4 : (2 : Nat) ^ 14000 = y at e ⊢
  rw [← e2] at h1 h2
  omega
theorem sm_lt {a : Int} {b : Nat} (h : a.natAbs ≤ b) (hb : b < 10 ^ 4000) : Sm a := by
  have e2 : ((10 ^ 4000 : Nat) : Int) = 10 ^ 4000 := by push_cast; rfl
  refine sm_of ?_ ?_ <;> rw [← e2] <;> generalize (10 : Nat) ^ 4000 = x at hb <;> omega
theorem dv_of {a : Int} (h0 : 0 < a) (h : a < 2 ^ 1000) : Dv a := by
  refine ⟨h0, ?_⟩
  refine PySem.Flt.log2_lt_of (by decide) (Nat.lt_trans (m := 2 ^ 1000) ?_ (by decide +kernel))
  have e2 : ((2 ^ 1000 : Nat) : Int) = 2 ^ 1000 := by push_cast; rfl
  rw [← e2] at h
  generalize (2 : Nat) ^ 1000 = x at h ⊢
  omega
end Wk
set_option Elab.async false
set_option maxRecDepth 100000
set_option maxHeartbeats 4000000
set_option linter.all false
namespace Wk
open PySem L2
open PyProof.Rows hiding St
def top (i : Nat) : Stmt := PySem.Challenge.pw_divisorways_k97_whole_factorial_parts.main.body.getD i (.Pass ⟨0, 0, 0, 0⟩)
abbrev potHd : Addr → Int → Int → HO := hdD "stirred"
abbrev potPt (i : PotI) : Pt PotT := potOf potHd i
structure Tx (mg : Str → Option Value) (base : Heap) : Prop where
  nd : base.NoDigits
  n_abs : mg "abs" = none
  n_all : mg "all" = none
  n_enumerate : mg "enumerate" = none
  n_int : mg "int" = none
  n_len : mg "len" = none
  n_max : mg "max" = none
  n_min : mg "min" = none
  n_range : mg "range" = none
  n_repr : mg "repr" = none
  n_sum : mg "sum" = none
  n_tuple : mg "tuple" = none
abbrev t_taken_out : Stmt := top 1
theorem sc_taken_out : FnScope ["number", "p", "often"] ["number", "p"] (defScope t_taken_out) := ⟨rfl, rfl, rfl, by decide +kernel, rfl, by decide +kernel, by decide +kernel⟩
@[irreducible] noncomputable def m_taken_out (p_number : Int) (p_p : Int) : Option (Int × Int) :=
bnd (0 : Int) fun often1 =>
(whS many (fun (st11 : Int × Int) k => Mir.lft (grd (0 < p_p)) >>= fun _ => k (decide ((st11.1 % p_p) = (0 : Int)))) (fun (st11 : Int × Int) =>
bnd (st11.2 + (1 : Int)) fun often42 =>
Mir.lft (grd (Dv p_p)) >>= fun _ => bnd (st11.1 / p_p) fun number52 =>
pure (number52, often42)) (p_number, often1)) >>= fun (st11 : Int × Int) =>
bnd (st11.2, st11.1) fun r76 => pure r76
noncomputable abbrev fm_taken_out : (Int × Int) → Option (Int × Int) := fun a => m_taken_out a.1 a.2
abbrev sp_taken_out (K : PySem.W.Frag) : Sp := spV F0 fm_taken_out (fun _ => (aCons rI (aOne rI))) (rT K (aCons rI (aOne rI)))
section
variable {P : Program} {w : World} {K : PySem.W.Frag} {mg : Str → Option Value} {base : Heap}
theorem g_taken_out (T : Tx mg base)  {f : Addr} {fd : FuncData} (F : Fun K "taken_out" "taken_out" t_taken_out f fd) : FnG P w K mg base CX0 1 f fd ["number", "p"] (sp_taken_out K) := by
  refine okG0 F sc_taken_out (fun vs H Q E h => ?_) (fun cdv A outer s0_ H0 vs Q E hr gd h => ?_)
  · obtain ⟨_, _, _, _, _, _, _, _, ⟨_, _, rfl, _, ⟨_, rfl, _⟩⟩, _⟩ := h
    rfl
  · obtain ⟨_, a, S0, s0, r, s', e0, p0, ⟨_, _, rfl, rfl, ⟨_, rfl, rfl⟩⟩, hm0, fin0⟩ := h
    obtain ⟨p_number, p_p⟩ := a
    have fin : ∀ v {H' : Hp}, (∃ S', Gm (pt0).M S0 H0 S' H' ∧ PotAt pt0 s' S' H' ∧ (rT K (aCons rI (aOne rI))) r v S') → Q v H' := fun v {H'} ⟨S', h1, h2, h3⟩ => fin0 v S' H' h1 h2 h3
    have w0 : Wd pt0 S0 H0 S0 H0 [] := Wd.start e0
    have hm0 : Mir.run (m_taken_out p_number p_p) s0 = some (r, s') := hm0
    unfold m_taken_out at hm0
    have sc := sc_taken_out
    refine ⟨_, pss_cons (ps_set (i := 2) sc.nd rfl (by first | exact Or.inl rfl | exact Or.inr rfl) (pe_int)) (pss_cons (ps_while PassesOwn.never (pt_cmpR op_eq (pe_op op_mod (pv 0) (pv 1)) (pe_int) (nomark _)) (pss_cons (ps_par (i := 2) (j := 0) rfl sc.nd rfl rfl (by decide) rfl rfl (pa_cons (pe_op op_add (pv 2) (pe_int)) (pa_cons (pe_op op_fdivW (pv 0) (pv 1)) (pa_nil))) (by rfl)) (pss_nil))) (pss_cons (ps_ret (pe_tup (pa_cons (pv 2) (pa_cons (pv 0) (pa_nil))))) (pss_nil))), ?_⟩
    refine q_set (fun v => [some (.int p_number), some (.int p_p), some v]) (fun _ => rfl) w0 p0 e_cI hm0 ?_
    intro often1 voften9 S2 H3 s4 w5 p6 g8 roften10 hm7
    cases (show voften9 = .int often1 from roften10)
    refine q_wh (p := pt0) (fun st11 σ S' H' s' => σ = [some (.int st11.1), some (.int p_p), some (.int st11.2)] ∧ Wd pt0 S0 H0 S' H' [] ∧ PotAt pt0 s' S' H' ∧ Ex S2 S') ⟨rfl, w5, p6, Ex.rf⟩ hm7 ?_ ?_ ?_ ?_
    · rintro st11 _ S17 H18 s19 ⟨rfl, w14, p15, eb16⟩
      exact ⟨p15, w14.i, (t_Test (e_eq (e_mod (e_var (R := rI) rfl rfl) (e_var (R := rI) rfl rfl)) e_cI))⟩
    · rintro st11 _ S23 H24 s25 S26 H27 s28 ⟨rfl, w20, p21, eb22⟩ g29 p30
      exact ⟨rfl, w20.go g29, p30, eb22.tr g29.s⟩
    · rintro st11 _ S34 H35 s36 st11_ s2_ D_ ⟨rfl, w31, p32, eb33⟩ hm37 nx38
      refine par_go ?_
      refine x_ev w31 p32 (e_add (e_var (R := rI) rfl rfl) e_cI) hm37 ?_
      intro often42 voften50 S43 H44 s45 w46 p47 g49 roften51 hm48
      cases (show voften50 = .int often42 from roften51)
      have eb33 := eb33.tr g49.s
      refine x_ev w46 p47 (e_fdiv (e_var (R := rI) rfl rfl) (e_var (R := rI) rfl rfl)) hm48 ?_
      intro number52 vnumber60 S53 H54 s55 w56 p57 g59 rnumber61 hm58
      cases (show vnumber60 = .int number52 from rnumber61)
      have eb33 := eb33.tr g59.s
      refine par_end [some (.int number52), some (.int p_p), some (.int often42)] rfl ?_
      cases run_of_pure hm58
      exact (nx38 _ _ _ ⟨rfl, w56, p57, eb33⟩).1
    · rintro st11 _ S65 H66 s67 ⟨rfl, w62, p63, eb64⟩ hm68
      refine q_ret w62 p63 (e_tup (K := K) (a_cons (e_var (R := rI) rfl rfl) (a_one (e_var (R := rI) rfl rfl))) (arN_cons arN_one) (by decide)) hm68 ?_
      intro r76 v77 S69 H70 s71 w72 p73 g75 rr78 hm74
      cases run_of_pure hm74
      exact fin _ ⟨S69, w72.g, p73, rr78⟩
end
abbrev t_power_left : Stmt := top 3
theorem sc_power_left : FnScope ["base", "often", "number", "found"] ["base", "often", "number"] (defScope t_power_left) := ⟨rfl, rfl, rfl, by decide +kernel, rfl, by decide +kernel, by decide +kernel⟩
@[irreducible] noncomputable def m_power_left (p_base : Int) (p_often : Int) (p_number : Int) : Option Int :=
bnd (1 : Int) fun found1 =>
Mir.lft (grd (0 < p_number)) >>= fun _ => bnd (p_base % p_number) fun base11 =>
(whS many (fun (st21 : Int × Int × Int) k => k (decide ((0 : Int) < st21.2.1))) (fun (st21 : Int × Int × Int) =>
Mir.lft (grd (0 < (2 : Int))) >>= fun _ => ((if (decide ((st21.2.1 % (2 : Int)) = (1 : Int))) = true then
(Mir.lft (grd (Sm st21.2.2 ∧ Sm st21.1)) >>= fun _ => Mir.lft (grd (0 < p_number)) >>= fun _ => bnd ((st21.2.2 * st21.1) % p_number) fun found62 =>
pure found62)
else
(pure st21.2.2)) >>= fun (st52 : Int) =>
Mir.lft (grd (Sm st21.1 ∧ Sm st21.1)) >>= fun _ => Mir.lft (grd (0 < p_number)) >>= fun _ => bnd ((st21.1 * st21.1) % p_number) fun base88 =>
Mir.lft (grd (Dv (2 : Int))) >>= fun _ => bnd (st21.2.1 / (2 : Int)) fun often98 =>
pure (base88, often98, st52))) (base11, p_often, found1)) >>= fun (st21 : Int × Int × Int) =>
bnd st21.2.2 fun r122 => pure r122
noncomputable abbrev fm_power_left : (Int × Int × Int) → Option Int := fun a => m_power_left a.1 a.2.1 a.2.2
abbrev sp_power_left (K : PySem.W.Frag) : Sp := spV F0 fm_power_left (fun _ => (aCons rI (aCons rI (aOne rI)))) rI
section
variable {P : Program} {w : World} {K : PySem.W.Frag} {mg : Str → Option Value} {base : Heap}
theorem g_power_left (T : Tx mg base)  {f : Addr} {fd : FuncData} (F : Fun K "power_left" "power_left" t_power_left f fd) : FnG P w K mg base CX0 1 f fd ["base", "often", "number"] (sp_power_left K) := by
  refine okG0 F sc_power_left (fun vs H Q E h => ?_) (fun cdv A outer s0_ H0 vs Q E hr gd h => ?_)
  · obtain ⟨_, _, _, _, _, _, _, _, ⟨_, _, rfl, _, ⟨_, _, rfl, _, ⟨_, rfl, _⟩⟩⟩, _⟩ := h
    rfl
  · obtain ⟨_, a, S0, s0, r, s', e0, p0, ⟨_, _, rfl, rfl, ⟨_, _, rfl, rfl, ⟨_, rfl, rfl⟩⟩⟩, hm0, fin0⟩ := h
    obtain ⟨p_base, p_often, p_number⟩ := a
    have fin : ∀ v {H' : Hp}, (∃ S', Gm (pt0).M S0 H0 S' H' ∧ PotAt pt0 s' S' H' ∧ rI r v S') → Q v H' := fun v {H'} ⟨S', h1, h2, h3⟩ => fin0 v S' H' h1 h2 h3
    have w0 : Wd pt0 S0 H0 S0 H0 [] := Wd.start e0
    have hm0 : Mir.run (m_power_left p_base p_often p_number) s0 = some (r, s') := hm0
    unfold m_power_left at hm0
    have sc := sc_power_left
    refine ⟨_, pss_cons (ps_par (i := 3) (j := 0) rfl sc.nd rfl rfl (by decide) rfl rfl (pa_cons (pe_int) (pa_cons (pe_op op_mod (pv 0) (pv 2)) (pa_nil))) (by rfl)) (pss_cons (ps_while PassesOwn.never (pt_cmpR op_gt (pv 1) (pe_int) (nomark _)) (pss_cons (ps_if (pt_cmpR op_eq (pe_op op_mod (pv 1) (pe_int)) (pe_int) (nomark _)) (pss_cons (ps_set (i := 3) sc.nd rfl (by first | exact Or.inl rfl | exact Or.inr rfl) (pe_op op_mod (pe_op op_mulX (pv 3) (pv 0)) (pv 2))) (pss_nil)) (pss_nil)) (pss_cons (ps_par (i := 0) (j := 1) rfl sc.nd rfl rfl (by decide) rfl rfl (pa_cons (pe_op op_mod (pe_op op_mulX (pv 0) (pv 0)) (pv 2)) (pa_cons (pe_op op_fdivW (pv 1) (pe_int)) (pa_nil))) (by rfl)) (pss_nil)))) (pss_cons (ps_ret (pv 3)) (pss_nil))), ?_⟩
    refine par_go ?_
    refine x_ev w0 p0 e_cI hm0 ?_
    intro found1 vfound9 S2 H3 s4 w5 p6 g8 rfound10 hm7
    cases (show vfound9 = .int found1 from rfound10)
    refine x_ev w5 p6 (e_mod (e_var (R := rI) rfl rfl) (e_var (R := rI) rfl rfl)) hm7 ?_
    intro base11 vbase19 S12 H13 s14 w15 p16 g18 rbase20 hm17
    cases (show vbase19 = .int base11 from rbase20)
    refine par_end [some (.int base11), some (.int p_often), some (.int p_number), some (.int found1)] rfl ?_
    refine q_wh (p := pt0) (fun st21 σ S' H' s' => σ = [some (.int st21.1), some (.int st21.2.1), some (.int p_number), some (.int st21.2.2)] ∧ Wd pt0 S0 H0 S' H' [] ∧ PotAt pt0 s' S' H' ∧ Ex S12 S') ⟨rfl, w15, p16, Ex.rf⟩ hm17 ?_ ?_ ?_ ?_
    · rintro st21 _ S27 H28 s29 ⟨rfl, w24, p25, eb26⟩
      exact ⟨p25, w24.i, (t_Test (e_gt (e_var (R := rI) rfl rfl) e_cI))⟩
    · rintro st21 _ S33 H34 s35 S36 H37 s38 ⟨rfl, w30, p31, eb32⟩ g39 p40
      exact ⟨rfl, w30.go g39, p40, eb32.tr g39.s⟩
    · rintro st21 _ S44 H45 s46 st21_ s2_ D_ ⟨rfl, w41, p42, eb43⟩ hm47 nx48
      refine q_ifj (p := pt0) (fun st52 σ S' H' s' => σ = [some (.int st21.1), some (.int st21.2.1), some (.int p_number), some (.int st52)] ∧ Wd pt0 S0 H0 S' H' [] ∧ PotAt pt0 s' S' H' ∧ Ex S44 S') w41 p42 (t_Test (e_eq (e_mod (e_var (R := rI) rfl rfl) e_cI) e_cI)) hm47 ?_ ?_ ?_
      · intro S53 H54 s55 st52_ s2_ D_ w56 p57 g58 hm59 nx60
        have eb43 := eb43.tr g58.s
        have eb61 := g58.s
        refine q_set (fun v => [some (.int st21.1), some (.int st21.2.1), some (.int p_number), some v]) (fun _ => rfl) w56 p57 (e_mod (e_mul (e_var (R := rI) rfl rfl) (e_var (R := rI) rfl rfl)) (e_var (R := rI) rfl rfl)) hm59 ?_
        intro found62 vfound70 S63 H64 s65 w66 p67 g69 rfound71 hm68
        cases (show vfound70 = .int found62 from rfound71)
        have eb43 := eb43.tr g69.s
        have eb61 := eb61.tr g69.s
        cases run_of_pure hm68
        exact nx60 _ _ _ ⟨rfl, w66, p67, eb61⟩
      · intro S72 H73 s74 st52_ s2_ D_ w75 p76 g77 hm78 nx79
        have eb43 := eb43.tr g77.s
        have eb80 := g77.s
        cases run_of_pure hm78
        exact nx79 _ _ _ ⟨rfl, w75, p76, eb80⟩
      · rintro st52 _ S84 H85 s86 ⟨rfl, w81, p82, eb83⟩ hm87
        have eb43 := eb43.tr eb83
        refine par_go ?_
        refine x_ev w81 p82 (e_mod (e_mul (e_var (R := rI) rfl rfl) (e_var (R := rI) rfl rfl)) (e_var (R := rI) rfl rfl)) hm87 ?_
        intro base88 vbase96 S89 H90 s91 w92 p93 g95 rbase97 hm94
        cases (show vbase96 = .int base88 from rbase97)
        have eb43 := eb43.tr g95.s
        refine x_ev w92 p93 (e_fdiv (e_var (R := rI) rfl rfl) e_cI) hm94 ?_
        intro often98 voften106 S99 H100 s101 w102 p103 g105 roften107 hm104
        cases (show voften106 = .int often98 from roften107)
        have eb43 := eb43.tr g105.s
        refine par_end [some (.int base88), some (.int often98), some (.int p_number), some (.int st52)] rfl ?_
        cases run_of_pure hm104
        exact (nx48 _ _ _ ⟨rfl, w102, p103, eb43⟩).1
    · rintro st21 _ S111 H112 s113 ⟨rfl, w108, p109, eb110⟩ hm114
      refine q_ret w108 p109 (e_var (R := rI) rfl rfl) hm114 ?_
      intro r122 v123 S115 H116 s117 w118 p119 g121 rr124 hm120
      cases run_of_pure hm120
      exact fin _ ⟨S115, w118.g, p119, rr124⟩
end
abbrev t_does_pass : Stmt := top 4
theorem sc_does_pass : FnScope ["number", "base", "often", "odd", "here", "step"] ["number", "base", "often", "odd"] (defScope t_does_pass) := ⟨rfl, rfl, rfl, by decide +kernel, rfl, by decide +kernel, by decide +kernel⟩
@[irreducible] noncomputable def m_does_pass (p_number : Int) (p_base : Int) (p_often : Int) (p_odd : Int) : Option Bool :=
Mir.lft (m_power_left p_base p_odd p_number) >>= fun r130 => bnd r130 fun here1 =>
Mir.lft (grd (List.length ([(1 : Int), (p_number - (1 : Int))] : List Int) ≤ 16000000)) >>= fun _ => if (List.contains ([(1 : Int), (p_number - (1 : Int))] : List Int) here1) = true then
(bnd true fun r25 => pure r25)
else
(Mir.lft (grd (RgB (p_often - (1 : Int)))) >>= fun _ => (lpC (ρ := Bool) (rng 0 (p_often - (1 : Int))) (fun (x37 : Int) (st35 : Int) =>
Mir.lft (grd (Sm st35 ∧ Sm st35)) >>= fun _ => Mir.lft (grd (0 < p_number)) >>= fun _ => bnd ((st35 * st35) % p_number) fun here76 =>
if (decide (here76 = (p_number - (1 : Int)))) = true then
(bnd true fun r100 => pure (Ctl.ret r100))
else
(pure (Ctl.go here76))) here1) >>= fun o => aft o (fun (st35 : Int) =>
bnd false fun r125 => pure r125) (fun r128 => pure r128))
noncomputable abbrev fm_does_pass : (Int × Int × Int × Int) → Option Bool := fun a => m_does_pass a.1 a.2.1 a.2.2.1 a.2.2.2
abbrev sp_does_pass (K : PySem.W.Frag) : Sp := spV F0 fm_does_pass (fun _ => (aCons rI (aCons rI (aCons rI (aOne rI))))) rB
section
variable {P : Program} {w : World} {K : PySem.W.Frag} {mg : Str → Option Value} {base : Heap}
theorem g_does_pass (T : Tx mg base) (D0 : Dk P w K mg base "power_left" t_power_left 1 ["base", "often", "number"] (sp_power_left K)) {f : Addr} {fd : FuncData} (F : Fun K "does_pass" "does_pass" t_does_pass f fd) : FnG P w K mg base CX0 2 f fd ["number", "base", "often", "odd"] (sp_does_pass K) := by
  obtain ⟨f0, fd0, F0, m0, G0, b0⟩ := D0
  refine okG0 F sc_does_pass (fun vs H Q E h => ?_) (fun cdv A outer s0_ H0 vs Q E hr gd h => ?_)
  · obtain ⟨_, _, _, _, _, _, _, _, ⟨_, _, rfl, _, ⟨_, _, rfl, _, ⟨_, _, rfl, _, ⟨_, rfl, _⟩⟩⟩⟩, _⟩ := h
    rfl
  · obtain ⟨_, a, S0, s0, r, s', e0, p0, ⟨_, _, rfl, rfl, ⟨_, _, rfl, rfl, ⟨_, _, rfl, rfl, ⟨_, rfl, rfl⟩⟩⟩⟩, hm0, fin0⟩ := h
    obtain ⟨p_number, p_base, p_often, p_odd⟩ := a
    have fin : ∀ v {H' : Hp}, (∃ S', Gm (pt0).M S0 H0 S' H' ∧ PotAt pt0 s' S' H' ∧ rB r v S') → Q v H' := fun v {H'} ⟨S', h1, h2, h3⟩ => fin0 v S' H' h1 h2 h3
    have w0 : Wd pt0 S0 H0 S0 H0 [] := Wd.start e0
    have hm0 : Mir.run (m_does_pass p_number p_base p_often p_odd) s0 = some (r, s') := hm0
    unfold m_does_pass at hm0
    have sc := sc_does_pass
    refine ⟨_, pss_cons (ps_set (i := 4) sc.nd rfl (by first | exact Or.inl rfl | exact Or.inr rfl) (pe_cG G0 (hr.mono (by decide)) gd rfl m0 F0.kp b0 pass0 (pa_cons (pv 1) (pa_cons (pv 3) (pa_cons (pv 0) (pa_nil)))))) (pss_cons (ps_if (pt_cmpR (k_in K) (pv 4) (pe_tup (pa_cons (pe_int) (pa_cons (pe_op op_sub (pv 0) (pe_int)) (pa_nil)))) (by rfl)) (pss_cons (ps_ret (pe_bl)) (pss_nil)) (pss_nil)) (pss_cons (ps_for PassesOwn.never rfl (pi_range1 rfl T.n_range (pa_cons (pe_op op_sub (pv 2) (pe_int)) pa_nil)) (pg_name (i := 5) sc.nd rfl (by first | exact Or.inl rfl | exact Or.inr rfl)) (pss_cons (ps_set (i := 4) sc.nd rfl (by first | exact Or.inl rfl | exact Or.inr rfl) (pe_op op_mod (pe_op op_mulX (pv 4) (pv 4)) (pv 0))) (pss_cons (ps_if (pt_cmpR op_eq (pv 4) (pe_op op_sub (pv 0) (pe_int)) (nomark _)) (pss_cons (ps_ret (pe_bl)) (pss_nil)) (pss_nil)) (pss_nil)))) (pss_cons (ps_ret (pe_bl)) (pss_nil)))), ?_⟩
    refine q_set (fun v => [some (.int p_number), some (.int p_base), some (.int p_often), some (.int p_odd), some v, none]) (fun _ => rfl) w0 p0 (e_call (E := E0) (fm := fm_power_left) (R := rI) (a_cons (e_var (R := rI) rfl rfl) (a_cons (e_var (R := rI) rfl rfl) (a_one (e_var (R := rI) rfl rfl))))) hm0 ?_
    intro here1 vhere9 S2 H3 s4 w5 p6 g8 rhere10 hm7
    cases (show vhere9 = .int here1 from rhere10)
    refine q_if w5 p6 (t_Test (e_inT (neg := false) (e_var (R := rI) rfl rfl) (e_tupL (K := K) (a_consL e_cI (a_consL (e_sub (e_var (R := rI) rfl rfl) e_cI) (a_nilL (R := rI))))))) hm7 ?_ ?_
    · intro S11 H12 s13 w14 p15 g16 hm17
      refine q_ret w14 p15 e_cB hm17 ?_
      intro r25 v26 S18 H19 s20 w21 p22 g24 rr27 hm23
      cases run_of_pure hm23
      exact fin _ ⟨S18, w21.g, p22, rr27⟩
    · intro S28 H29 s30 w31 p32 g33 hm34
      refine nx_done ?_
      refine q_forC (p := pt0) (ρ := Bool) w31 p32 (i_R1 (e_sub (e_var (R := rI) rfl rfl) e_cI)) (g_nm (R := rI)) hm34 (fun Sb36 st35 σ S' H' s' => Ex Sb36 S' ∧ (∃ (xstep_ : Option V), σ = [some (.int p_number), some (.int p_base), some (.int p_often), some (.int p_odd), some (.int st35), xstep_] ∧ Wd pt0 S0 H0 S' H' [] ∧ PotAt pt0 s' S' H' ∧ Ex S28 S')) (fun r v H' s' => ∃ S', Gm (pt0).M S0 H0 S' H' ∧ PotAt pt0 s' S' H' ∧ rB r v S') ?_ ?_ ?_ ?_ ?_ ?_
      · intro S38 H39 s40 w41 p42 g43
        exact ⟨Ex.rf, ⟨_, rfl, w41, p42, g43.s⟩⟩
      · rintro Sb36 st35 _ S48 H49 s50 ⟨ex51, ⟨xstep44, rfl, w45, p46, eb47⟩⟩
        exact ⟨ex51, w45.i, p46, ownOk0⟩
      · rintro Sb36 st35 _ S56 H57 s58 S59 H60 ⟨ex62, ⟨xstep52, rfl, w53, p54, eb55⟩⟩ g61
        exact ⟨ex62.tr g61.s, _, rfl, w53.go (Gm.up g61), PotAt.go p54 g61, eb55.tr g61.s⟩
      · rintro Sb36 x37 st35 _ σ75 S67 H68 s69 st35_ s2_ D_ ⟨ex74, ⟨xstep63, rfl, w64, p65, eb66⟩⟩ hp hm70 nx71 bk72 rt73
        obtain ⟨_, rfl, rfl⟩ := hp
        refine q_set (fun v => [some (.int p_number), some (.int p_base), some (.int p_often), some (.int p_odd), some v, some (.int x37)]) (fun _ => rfl) w64 p65 (e_mod (e_mul (e_var (R := rI) rfl rfl) (e_var (R := rI) rfl rfl)) (e_var (R := rI) rfl rfl)) hm70 ?_
        intro here76 vhere84 S77 H78 s79 w80 p81 g83 rhere85 hm82
        cases (show vhere84 = .int here76 from rhere85)
        have eb66 := eb66.tr g83.s
        have ex74 := ex74.tr g83.s
        refine q_if w80 p81 (t_Test (e_eq (e_var (R := rI) rfl rfl) (e_sub (e_var (R := rI) rfl rfl) e_cI))) hm82 ?_ ?_
        · intro S86 H87 s88 w89 p90 g91 hm92
          have eb66 := eb66.tr g91.s
          have ex74 := ex74.tr g91.s
          refine q_ret w89 p90 e_cB hm92 ?_
          intro r100 v101 S93 H94 s95 w96 p97 g99 rr102 hm98
          cases run_of_pure hm98
          exact rt73 _ _ _ rfl ⟨S93, w96.g, p97, rr102⟩
        · intro S103 H104 s105 w106 p107 g108 hm109
          have eb66 := eb66.tr g108.s
          have ex74 := ex74.tr g108.s
          refine nx_done ?_
          cases run_of_pure hm109
          exact (nx71 _ _ _ _ rfl ⟨ex74, ⟨_, rfl, w106, p107, eb66⟩⟩).1
      · rintro Sb36 st35 _ S114 H115 s116 ⟨_, ⟨xstep110, rfl, w111, p112, eb113⟩⟩ hm117
        have hm117 := hm117.elim id id
        refine q_ret w111 p112 e_cB hm117 ?_
        intro r125 v126 S118 H119 s120 w121 p122 g124 rr127 hm123
        cases run_of_pure hm123
        exact fin _ ⟨S118, w121.g, p122, rr127⟩
      · intro r128 v129 H' s' hr1 hm1
        cases run_of_pure hm1
        exact fin _ hr1
end
abbrev t_is_prime_number : Stmt := top 2
theorem sc_is_prime_number : FnScope ["number", "small", "p", "often", "odd"] ["number"] (defScope t_is_prime_number) := ⟨rfl, rfl, rfl, by decide +kernel, rfl, by decide +kernel, by decide +kernel⟩
@[irreducible] noncomputable def m_is_prime_number (p_number : Int) : Option Bool :=
if (decide (p_number < (2 : Int))) = true then
(bnd false fun r15 => pure r15)
else
(Mir.lft (grd (List.length ([(2 : Int), (3 : Int), (5 : Int), (7 : Int), (11 : Int), (13 : Int), (17 : Int), (19 : Int), (23 : Int), (29 : Int), (31 : Int), (37 : Int)] : List Int) ≤ 16000000)) >>= fun _ => bnd ([(2 : Int), (3 : Int), (5 : Int), (7 : Int), (11 : Int), (13 : Int), (17 : Int), (19 : Int), (23 : Int), (29 : Int), (31 : Int), (37 : Int)] : List Int) fun small25 =>
(lpC (ρ := Bool) small25 (fun (x37 : Int) (st35 : Unit) =>
Mir.lft (grd (0 < x37)) >>= fun _ => if (decide ((p_number % x37) = (0 : Int))) = true then
(bnd (decide (p_number = x37)) fun r90 => pure (Ctl.ret r90))
else
(pure (Ctl.go ()))) ()) >>= fun o => aft o (fun (st35 : Unit) =>
Mir.lft (m_taken_out (p_number - (1 : Int)) (2 : Int)) >>= fun r133 => bnd r133 fun t108 =>
Mir.lft (grd (List.length small25 ≤ 16000000)) >>= fun _ => cmp small25 (fun x117 => Mir.lft (m_does_pass p_number x117 t108.1 t108.2) >>= fun r121 => pure (some r121)) >>= fun l132 => bnd (List.all l132 id) fun r129 => pure r129) (fun r134 => pure r134))
noncomputable abbrev fm_is_prime_number : (Int) → Option Bool := fun a => m_is_prime_number a
abbrev sp_is_prime_number (K : PySem.W.Frag) : Sp := spV F0 fm_is_prime_number (fun _ => (aOne rI)) rB
section
variable {P : Program} {w : World} {K : PySem.W.Frag} {mg : Str → Option Value} {base : Heap}
theorem g_is_prime_number (T : Tx mg base) (D0 : Dk P w K mg base "taken_out" t_taken_out 1 ["number", "p"] (sp_taken_out K)) (D1 : Dk P w K mg base "does_pass" t_does_pass 2 ["number", "base", "often", "odd"] (sp_does_pass K)) {f : Addr} {fd : FuncData} (F : Fun K "is_prime_number" "is_prime_number" t_is_prime_number f fd) : FnG P w K mg base CX0 3 f fd ["number"] (sp_is_prime_number K) := by
  obtain ⟨f0, fd0, F0, m0, G0, b0⟩ := D0
  obtain ⟨f1, fd1, F1, m1, G1, b1⟩ := D1
  refine okG0 F sc_is_prime_number (fun vs H Q E h => ?_) (fun cdv A outer s0_ H0 vs Q E hr gd h => ?_)
  · obtain ⟨_, _, _, _, _, _, _, _, ⟨_, rfl, _⟩, _⟩ := h
    rfl
  · obtain ⟨_, p_number, S0, s0, r, s', e0, p0, ⟨_, rfl, rfl⟩, hm0, fin0⟩ := h
    have fin : ∀ v {H' : Hp}, (∃ S', Gm (pt0).M S0 H0 S' H' ∧ PotAt pt0 s' S' H' ∧ rB r v S') → Q v H' := fun v {H'} ⟨S', h1, h2, h3⟩ => fin0 v S' H' h1 h2 h3
    have w0 : Wd pt0 S0 H0 S0 H0 [] := Wd.start e0
    have hm0 : Mir.run (m_is_prime_number p_number) s0 = some (r, s') := hm0
    unfold m_is_prime_number at hm0
    have sc := sc_is_prime_number
    refine ⟨_, pss_cons (ps_if (pt_cmpR op_lt (pv 0) (pe_int) (nomark _)) (pss_cons (ps_ret (pe_bl)) (pss_nil)) (pss_nil)) (pss_cons (ps_set (i := 1) sc.nd rfl (by first | exact Or.inl rfl | exact Or.inr rfl) (pe_tup (pa_cons (pe_int) (pa_cons (pe_int) (pa_cons (pe_int) (pa_cons (pe_int) (pa_cons (pe_int) (pa_cons (pe_int) (pa_cons (pe_int) (pa_cons (pe_int) (pa_cons (pe_int) (pa_cons (pe_int) (pa_cons (pe_int) (pa_cons (pe_int) (pa_nil))))))))))))))) (pss_cons (ps_for PassesOwn.never rfl (k_pit K (pv 1)) (pg_name (i := 2) sc.nd rfl (by first | exact Or.inl rfl | exact Or.inr rfl)) (pss_cons (ps_if (pt_cmpR op_eq (pe_op op_mod (pv 0) (pv 2)) (pe_int) (nomark _)) (pss_cons (ps_ret (pe_cmpR op_eq (pv 0) (pv 2) (nomark _))) (pss_nil)) (pss_nil)) (pss_nil))) (pss_cons (ps_asg (pe_cG G0 (hr.mono (by decide)) gd rfl m0 F0.kp b0 pass0 (pa_cons (pe_op op_sub (pv 0) (pe_int)) (pa_cons (pe_int) (pa_nil)))) (k_gt K (pgs_cons (pg_name (i := 3) sc.nd rfl (by first | exact Or.inl rfl | exact Or.inr rfl)) (pgs_cons (pg_name (i := 4) sc.nd rfl (by first | exact Or.inl rfl | exact Or.inr rfl)) (pgs_nil))))) (pss_cons (ps_ret (pe_callB (k_all K) (by rfl) T.n_all (by decide +kernel) (pa_cons (pe_lc (own := [("p", 2)]) (g := (gName 2)) (tt := tYes) rfl sc.nd (k_pit K (pv 1)) (blkOk_by (N := ["number", "small", "p", "often", "odd"]) (sc := defScope t_is_prime_number) (by decide +kernel)) (fun _ _ _ _ _ => pg_name (i := 2) sc.nd rfl (by first | exact Or.inl rfl | exact Or.inr rfl)) (fun _ _ _ _ _ => pts_nil) (fun _ _ _ _ _ => pe_cG G1 (hr.mono (by decide)) gd rfl m1 F1.kp b1 pass0 (pa_cons (pv 0) (pa_cons (pv 2) (pa_cons (pv 3) (pa_cons (pv 4) (pa_nil))))))) pa_nil))) (pss_nil))))), ?_⟩
    refine q_if w0 p0 (t_Test (e_lt (e_var (R := rI) rfl rfl) e_cI)) hm0 ?_ ?_
    · intro S1 H2 s3 w4 p5 g6 hm7
      refine q_ret w4 p5 e_cB hm7 ?_
      intro r15 v16 S8 H9 s10 w11 p12 g14 rr17 hm13
      cases run_of_pure hm13
      exact fin _ ⟨S8, w11.g, p12, rr17⟩
    · intro S18 H19 s20 w21 p22 g23 hm24
      refine nx_done ?_
      refine q_set (fun v => [some (.int p_number), some v, none, none, none]) (fun _ => rfl) w21 p22 (e_tupL (K := K) (a_consL e_cI (a_consL e_cI (a_consL e_cI (a_consL e_cI (a_consL e_cI (a_consL e_cI (a_consL e_cI (a_consL e_cI (a_consL e_cI (a_consL e_cI (a_consL e_cI (a_consL e_cI (a_nilL (R := rI))))))))))))))) hm24 ?_
      intro small25 vsmall33 S26 H27 s28 w29 p30 g32 rsmall34 hm31
      refine q_forC (p := pt0) (ρ := Bool) w29 p30 (i_T (e_var rfl rsmall34)) (g_nm (R := rI)) hm31 (fun Sb36 st35 σ S' H' s' => Ex Sb36 S' ∧ (∃ (xp_ : Option V), σ = [some (.int p_number), some vsmall33, xp_, none, none] ∧ Wd pt0 S0 H0 S' H' [] ∧ PotAt pt0 s' S' H' ∧ Ex S26 S')) (fun r v H' s' => ∃ S', Gm (pt0).M S0 H0 S' H' ∧ PotAt pt0 s' S' H' ∧ rB r v S') ?_ ?_ ?_ ?_ ?_ ?_
      · intro S38 H39 s40 w41 p42 g43
        have rsmall34 := Mo.mo g43.s rsmall34
        exact ⟨Ex.rf, ⟨_, rfl, w41, p42, g43.s⟩⟩
      · rintro Sb36 st35 _ S48 H49 s50 ⟨ex51, ⟨xp44, rfl, w45, p46, eb47⟩⟩
        exact ⟨ex51, w45.i, p46, ownOk0⟩
      · rintro Sb36 st35 _ S56 H57 s58 S59 H60 ⟨ex62, ⟨xp52, rfl, w53, p54, eb55⟩⟩ g61
        exact ⟨ex62.tr g61.s, _, rfl, w53.go (Gm.up g61), PotAt.go p54 g61, eb55.tr g61.s⟩
      · rintro Sb36 x37 st35 _ σ75 S67 H68 s69 st35_ s2_ D_ ⟨ex74, ⟨xp63, rfl, w64, p65, eb66⟩⟩ hp hm70 nx71 bk72 rt73
        obtain ⟨_, rfl, rfl⟩ := hp
        have rsmall34 := Mo.mo eb66 rsmall34
        refine q_if w64 p65 (t_Test (e_eq (e_mod (e_var (R := rI) rfl rfl) (e_var (R := rI) rfl rfl)) e_cI)) hm70 ?_ ?_
        · intro S76 H77 s78 w79 p80 g81 hm82
          have rsmall34 := Mo.mo g81.s rsmall34
          have eb66 := eb66.tr g81.s
          have ex74 := ex74.tr g81.s
          refine q_ret w79 p80 (e_eq (e_var (R := rI) rfl rfl) (e_var (R := rI) rfl rfl)) hm82 ?_
          intro r90 v91 S83 H84 s85 w86 p87 g89 rr92 hm88
          cases run_of_pure hm88
          exact rt73 _ _ _ rfl ⟨S83, w86.g, p87, rr92⟩
        · intro S93 H94 s95 w96 p97 g98 hm99
          have rsmall34 := Mo.mo g98.s rsmall34
          have eb66 := eb66.tr g98.s
          have ex74 := ex74.tr g98.s
          refine nx_done ?_
          cases run_of_pure hm99
          exact (nx71 _ _ _ _ rfl ⟨ex74, ⟨_, rfl, w96, p97, eb66⟩⟩).1
      · rintro Sb36 st35 _ S104 H105 s106 ⟨_, ⟨xp100, rfl, w101, p102, eb103⟩⟩ hm107
        have hm107 := hm107.elim id id
        have rsmall34 := Mo.mo eb103 rsmall34
        refine q_unp w101 p102 (e_call (E := E0) (fm := fm_taken_out) (R := (rT K (aCons rI (aOne rI)))) (a_cons (e_sub (e_var (R := rI) rfl rfl) e_cI) (a_one e_cI))) (g_tp (gq_cons (g_nm (R := rI)) (gq_one (g_nm (R := rI))))) hm107 ?_
        intro t108 σ116 S109 H110 s111 w112 p113 g115 hp hm114
        have rsmall34 := Mo.mo g115.s rsmall34
        obtain ⟨_, ⟨_, rfl, rfl⟩, ⟨_, rfl, rfl⟩⟩ := hp
        refine q_ret w112 p113 (c_all (EvL.rd (l_lc1 (γ := Bool) (vs := [2]) (me := fun x117 k => Mir.lft (m_does_pass p_number x117 t108.1 t108.2) >>= fun r120 => k r120) (R' := rB) (i_T (e_var rfl rsmall34)) ownOk0 (g_nm (R := rI)) (fun x σ' S hp => by obtain ⟨_, rfl, _⟩ := hp; rfl) (fun x117 σ' S1 H1 g118 hp => by have w119 := w112.go g118; obtain ⟨_, rfl, rfl⟩ := hp; have rsmall34 := Mo.mo g118.s rsmall34; exact (e_call (E := E0) (fm := fm_does_pass) (R := rB) (a_cons (e_var (R := rI) rfl rfl) (a_cons (e_var (R := rI) rfl rfl) (a_cons (e_var (R := rI) rfl rfl) (a_one (e_var (R := rI) rfl rfl))))))) pm_nm))) hm114 ?_
        intro r129 v130 S122 H123 s124 w125 p126 g128 rr131 hm127
        cases run_of_pure hm127
        exact fin _ ⟨S122, w125.g, p126, rr131⟩
      · intro r134 v135 H' s' hr1 hm1
        cases run_of_pure hm1
        exact fin _ hr1
end
abbrev t_primes_of : Stmt := top 5
theorem sc_primes_of : FnScope ["number", "found", "p", "often"] ["number"] (defScope t_primes_of) := ⟨rfl, rfl, rfl, by decide +kernel, rfl, by decide +kernel, by decide +kernel⟩
@[irreducible] noncomputable def m_primes_of (p_number : Int) : Option (List (Int × Int)) :=
Mir.lft (grd (List.length ([] : List (Int × Int)) ≤ 16000000)) >>= fun _ => bnd ([] : List (Int × Int)) fun found1 =>
bnd (2 : Int) fun p12 =>
(whC many (fun (st22 : Int × (List (Int × Int)) × Int) k => Mir.lft (grd (Sm st22.2.2 ∧ Sm st22.2.2)) >>= fun _ => k (decide ((st22.2.2 * st22.2.2) ≤ st22.1))) (fun (st22 : Int × (List (Int × Int)) × Int) =>
Mir.lft (grd (0 < st22.2.2)) >>= fun _ => if (decide ((st22.1 % st22.2.2) = (0 : Int))) = true then
(Mir.lft (m_taken_out st22.1 st22.2.2) >>= fun r134 => bnd r134 fun t72 =>
Mir.lft (grd (List.length st22.2.1 < 16000000)) >>= fun _ => bnd (st22.2.1 ++ [(st22.2.2, t72.1)]) fun found81 =>
Mir.lft (m_is_prime_number t72.2) >>= fun r133 => if r133 = true then
(pure (Ctl.brk (t72.2, found81, st22.2.2)))
else
((if (decide (st22.2.2 = (1009 : Int))) = true then Mir.lft (m_is_prime_number t72.2) >>= fun r132 => pure r132 else pure false) >>= fun b131 => if b131 = true then
(pure (Ctl.brk (t72.2, found81, st22.2.2)))
else
((if (decide (st22.2.2 = (2 : Int))) = true then pure (1 : Int) else (if (decide (st22.2.2 = (3 : Int))) = true then pure true else Mir.lft (grd (0 < (6 : Int))) >>= fun _ => pure (decide ((st22.2.2 % (6 : Int)) = (5 : Int)))) >>= fun b130 => pure (if b130 = true then (2 : Int) else (4 : Int))) >>= fun c129 => bnd (st22.2.2 + c129) fun p119 =>
pure (Ctl.go (t72.2, found81, p119)))))
else
((if (decide (st22.2.2 = (1009 : Int))) = true then Mir.lft (m_is_prime_number st22.1) >>= fun r169 => pure r169 else pure false) >>= fun b168 => if b168 = true then
(pure (Ctl.brk (st22.1, st22.2.1, st22.2.2)))
else
((if (decide (st22.2.2 = (2 : Int))) = true then pure (1 : Int) else (if (decide (st22.2.2 = (3 : Int))) = true then pure true else Mir.lft (grd (0 < (6 : Int))) >>= fun _ => pure (decide ((st22.2.2 % (6 : Int)) = (5 : Int)))) >>= fun b167 => pure (if b167 = true then (2 : Int) else (4 : Int))) >>= fun c166 => bnd (st22.2.2 + c166) fun p156 =>
pure (Ctl.go (st22.1, st22.2.1, p156))))) (p_number, found1, p12)) >>= fun o => aft o (fun (st22 : Int × (List (Int × Int)) × Int) =>
(if (decide ((1 : Int) < st22.1)) = true then Mir.lft (grd (List.length ([(st22.1, (1 : Int))] : List (Int × Int)) ≤ 16000000)) >>= fun _ => pure ([(st22.1, (1 : Int))] : List (Int × Int)) else Mir.lft (grd (List.length ([] : List (Int × Int)) ≤ 16000000)) >>= fun _ => pure ([] : List (Int × Int))) >>= fun c191 => Mir.lft (grd (List.length st22.2.1 + List.length c191 ≤ 16000000)) >>= fun _ => bnd (st22.2.1 ++ c191) fun r188 => pure r188) (fun r192 => Empty.elim r192)
noncomputable abbrev fm_primes_of : (Int) → Option (List (Int × Int)) := fun a => m_primes_of a
abbrev sp_primes_of (K : PySem.W.Frag) : Sp := spV F0 fm_primes_of (fun _ => (aOne rI)) (rT K (aAll (rT K (aCons rI (aOne rI)))))
section
variable {P : Program} {w : World} {K : PySem.W.Frag} {mg : Str → Option Value} {base : Heap}
theorem g_primes_of (T : Tx mg base) (D0 : Dk P w K mg base "taken_out" t_taken_out 1 ["number", "p"] (sp_taken_out K)) (D1 : Dk P w K mg base "is_prime_number" t_is_prime_number 3 ["number"] (sp_is_prime_number K)) {f : Addr} {fd : FuncData} (F : Fun K "primes_of" "primes_of" t_primes_of f fd) : FnG P w K mg base CX0 4 f fd ["number"] (sp_primes_of K) := by
  obtain ⟨f0, fd0, F0, m0, G0, b0⟩ := D0
  obtain ⟨f1, fd1, F1, m1, G1, b1⟩ := D1
  refine okG0 F sc_primes_of (fun vs H Q E h => ?_) (fun cdv A outer s0_ H0 vs Q E hr gd h => ?_)
  · obtain ⟨_, _, _, _, _, _, _, _, ⟨_, rfl, _⟩, _⟩ := h
    rfl
  · obtain ⟨_, p_number, S0, s0, r, s', e0, p0, ⟨_, rfl, rfl⟩, hm0, fin0⟩ := h
    have fin : ∀ v {H' : Hp}, (∃ S', Gm (pt0).M S0 H0 S' H' ∧ PotAt pt0 s' S' H' ∧ (rT K (aAll (rT K (aCons rI (aOne rI))))) r v S') → Q v H' := fun v {H'} ⟨S', h1, h2, h3⟩ => fin0 v S' H' h1 h2 h3
    have w0 : Wd pt0 S0 H0 S0 H0 [] := Wd.start e0
    have hm0 : Mir.run (m_primes_of p_number) s0 = some (r, s') := hm0
    unfold m_primes_of at hm0
    have sc := sc_primes_of
    refine ⟨_, pss_cons (ps_par (i := 1) (j := 2) rfl sc.nd rfl rfl (by decide) rfl rfl (pa_cons (pe_lst (pa_nil)) (pa_cons (pe_int) (pa_nil))) (by rfl)) (pss_cons (ps_while PassesOwn.never (pt_cmpR op_le (pe_op op_mulX (pv 2) (pv 2)) (pv 0) (nomark _)) (pss_cons (ps_if (pt_cmpR op_eq (pe_op op_mod (pv 0) (pv 2)) (pe_int) (nomark _)) (pss_cons (ps_asg (pe_cG G0 (hr.mono (by decide)) gd rfl m0 F0.kp b0 pass0 (pa_cons (pv 0) (pa_cons (pv 2) (pa_nil)))) (k_gt K (pgs_cons (pg_name (i := 3) sc.nd rfl (by first | exact Or.inl rfl | exact Or.inr rfl)) (pgs_cons (pg_name (i := 0) sc.nd rfl (by first | exact Or.inl rfl | exact Or.inr rfl)) (pgs_nil))))) (pss_cons (ps_expr (pe_bm PySem.F.plainAttrs_list PySem.F.slot_list_append PySem.F.type_list_append mt_append (pv 1) (pa_cons (pe_tup (pa_cons (pv 2) (pa_cons (pv 3) (pa_nil)))) pa_nil))) (pss_cons (ps_if (pt_val (pe_cG G1 (hr.mono (by decide)) gd rfl m1 F1.kp b1 pass0 (pa_cons (pv 0) (pa_nil)))) (pss_cons (ps_break) (pss_nil)) (pss_nil)) (pss_nil)))) (pss_nil)) (pss_cons (ps_if (PW.pt (pw_and (pt_cmpR op_eq (pv 2) (pe_int) (nomark _)) (pw_and1 (pt_val (pe_cG G1 (hr.mono (by decide)) gd rfl m1 F1.kp b1 pass0 (pa_cons (pv 0) (pa_nil))))))) (pss_cons (ps_break) (pss_nil)) (pss_nil)) (pss_cons (ps_set (i := 2) sc.nd rfl (by first | exact Or.inl rfl | exact Or.inr rfl) (pe_op op_add (pv 2) (pe_ifExp (pt_cmpR op_eq (pv 2) (pe_int) (nomark _)) (pe_int) (pe_ifExp (PW.pt (pw_or (pt_cmpR op_eq (pv 2) (pe_int) (nomark _)) (pw_or1 (pt_cmpR op_eq (pe_op op_mod (pv 2) (pe_int)) (pe_int) (nomark _))))) (pe_int) (pe_int))))) (pss_nil))))) (pss_cons (ps_ret (pe_callTy (k_tupOf K) (by rfl) T.n_tuple (by decide +kernel) (pa_cons (pe_op op_cat (pv 1) (pe_ifExp (pt_cmpR op_gt (pv 0) (pe_int) (nomark _)) (pe_lst (pa_cons (pe_tup (pa_cons (pv 0) (pa_cons (pe_int) (pa_nil)))) (pa_nil))) (pe_lst (pa_nil)))) pa_nil))) (pss_nil))), ?_⟩
    refine par_go ?_
    refine x_evL w0 p0 (l_lstL (a_nilL (R := (rT K (aCons rI (aOne rI)))))) hm0 ?_
    intro found1 q9 vs10 S2 H3 s4 w5 p6 g8 rfound11 hm7
    have rfound11 : All (rT K (aCons rI (aOne rI))) _ _ _ := rfound11
    refine x_ev w5 p6 e_cI hm7 ?_
    intro p12 vp20 S13 H14 s15 w16 p17 g19 rp21 hm18
    cases (show vp20 = .int p12 from rp21)
    have rfound11 := All.mo g19.s rfound11
    refine par_end [some (.int p_number), some (.ref q9), some (.int p12), none] rfl ?_
    refine q_whC (p := pt0) (ρ := Empty) (fun st22 σ S' H' s' => ∃ (qfound_ : Addr) (usfound_ : List V) (xoften_ : Option V), σ = [some (.int st22.1), some (.ref qfound_), some (.int st22.2.2), xoften_] ∧ Wd pt0 S0 H0 S' H' [(qfound_, .lst usfound_)] ∧ PotAt pt0 s' S' H' ∧ Ex S13 S' ∧ All (rT K (aCons rI (aOne rI))) S' st22.2.1 usfound_) (fun _ _ _ _ => False) ⟨_, _, _, rfl, w16, p17, Ex.rf, rfound11⟩ hm18 ?_ ?_ ?_ ?_ ?_
    · rintro st22 _ S32 H33 s34 ⟨qfound25, usfound26, xoften27, rfl, w29, p30, eb31, rfound28⟩
      exact ⟨p30, w29.i, (t_Test (e_le (e_mul (e_var (R := rI) rfl rfl) (e_var (R := rI) rfl rfl)) (e_var (R := rI) rfl rfl)))⟩
    · rintro st22 _ S42 H43 s44 S45 H46 s47 ⟨qfound35, usfound36, xoften37, rfl, w39, p40, eb41, rfound38⟩ g48 p49
      exact ⟨_, _, _, rfl, w39.go g48, p49, eb41.tr g48.s, All.mo g48.s rfound38⟩
    · rintro st22 _ S57 H58 s59 st22_ s2_ D_ ⟨qfound50, usfound51, xoften52, rfl, w54, p55, eb56, rfound53⟩ hm60 nx61 bk62 rt63
      refine q_if w54 p55 (t_Test (e_eq (e_mod (e_var (R := rI) rfl rfl) (e_var (R := rI) rfl rfl)) e_cI)) hm60 ?_ ?_
      · intro S65 H66 s67 w68 p69 g70 hm71
        have rfound53 := All.mo g70.s rfound53
        have eb56 := eb56.tr g70.s
        refine q_unp w68 p69 (e_call (E := E0) (fm := fm_taken_out) (R := (rT K (aCons rI (aOne rI)))) (a_cons (e_var (R := rI) rfl rfl) (a_one (e_var (R := rI) rfl rfl)))) (g_tp (gq_cons (g_nm (R := rI)) (gq_one (g_nm (R := rI))))) hm71 ?_
        intro t72 σ80 S73 H74 s75 w76 p77 g79 hp hm78
        have rfound53 := All.mo g79.s rfound53
        have eb56 := eb56.tr g79.s
        obtain ⟨_, ⟨_, rfl, rfl⟩, ⟨_, rfl, rfl⟩⟩ := hp
        refine q_app (j := 0) w76 p77 rfl rfl rfound53 (e_tup (K := K) (a_cons (e_var (R := rI) rfl rfl) (a_one (e_var (R := rI) rfl rfl))) (arN_cons arN_one) (by decide)) hm78 ?_
        intro found81 vs82 S84 H85 s86 w87 p88 e90 rfound83 hm89
        have eb56 := eb56.tr e90
        refine q_if w87 p88 (t_B (e_call (E := E0) (fm := fm_is_prime_number) (R := rB) (a_one (e_var (R := rI) rfl rfl)))) hm89 ?_ ?_
        · intro S91 H92 s93 w94 p95 g96 hm97
          have rfound83 := All.mo g96.s rfound83
          have eb56 := eb56.tr g96.s
          cases run_of_pure hm97
          exact bk62 _ _ _ _ rfl ⟨_, _, _, rfl, w94, p95, eb56, rfound83⟩
        · intro S98 H99 s100 w101 p102 g103 hm104
          have rfound83 := All.mo g103.s rfound83
          have eb56 := eb56.tr g103.s
          refine nx_done ?_
          refine nx_done ?_
          refine q_if w101 p102 (t_and (t_Test (e_eq (e_var (R := rI) rfl rfl) e_cI)) (t_B (e_call (E := E0) (fm := fm_is_prime_number) (R := rB) (a_one (e_var (R := rI) rfl rfl))))) hm104 ?_ ?_
          · intro S105 H106 s107 w108 p109 g110 hm111
            have rfound83 := All.mo g110.s rfound83
            have eb56 := eb56.tr g110.s
            cases run_of_pure hm111
            exact bk62 _ _ _ _ rfl ⟨_, _, _, rfl, w108, p109, eb56, rfound83⟩
          · intro S112 H113 s114 w115 p116 g117 hm118
            have rfound83 := All.mo g117.s rfound83
            have eb56 := eb56.tr g117.s
            refine nx_done ?_
            refine q_set (fun v => [some (.int t72.2), some (.ref qfound50), some v, some (.int t72.1)]) (fun _ => rfl) w115 p116 (e_add (e_var (R := rI) rfl rfl) (e_if (R := rI) (t_Test (e_eq (e_var (R := rI) rfl rfl) e_cI)) e_cI (e_ifT (R := rI) (t_or (t_Test (e_eq (e_var (R := rI) rfl rfl) e_cI)) (t_Test (e_eq (e_mod (e_var (R := rI) rfl rfl) e_cI) e_cI))) e_cI e_cI))) hm118 ?_
            intro p119 vp127 S120 H121 s122 w123 p124 g126 rp128 hm125
            cases (show vp127 = .int p119 from rp128)
            have rfound83 := All.mo g126.s rfound83
            have eb56 := eb56.tr g126.s
            cases run_of_pure hm125
            exact (nx61 _ _ _ _ rfl ⟨_, _, _, rfl, w123, p124, eb56, rfound83⟩).1
      · intro S135 H136 s137 w138 p139 g140 hm141
        have rfound53 := All.mo g140.s rfound53
        have eb56 := eb56.tr g140.s
        refine nx_done ?_
        refine q_if w138 p139 (t_and (t_Test (e_eq (e_var (R := rI) rfl rfl) e_cI)) (t_B (e_call (E := E0) (fm := fm_is_prime_number) (R := rB) (a_one (e_var (R := rI) rfl rfl))))) hm141 ?_ ?_
        · intro S142 H143 s144 w145 p146 g147 hm148
          have rfound53 := All.mo g147.s rfound53
          have eb56 := eb56.tr g147.s
          cases run_of_pure hm148
          exact bk62 _ _ _ _ rfl ⟨_, _, _, rfl, w145, p146, eb56, rfound53⟩
        · intro S149 H150 s151 w152 p153 g154 hm155
          have rfound53 := All.mo g154.s rfound53
          have eb56 := eb56.tr g154.s
          refine nx_done ?_
          refine q_set (fun v => [some (.int st22.1), some (.ref qfound50), some v, xoften52]) (fun _ => rfl) w152 p153 (e_add (e_var (R := rI) rfl rfl) (e_if (R := rI) (t_Test (e_eq (e_var (R := rI) rfl rfl) e_cI)) e_cI (e_ifT (R := rI) (t_or (t_Test (e_eq (e_var (R := rI) rfl rfl) e_cI)) (t_Test (e_eq (e_mod (e_var (R := rI) rfl rfl) e_cI) e_cI))) e_cI e_cI))) hm155 ?_
          intro p156 vp164 S157 H158 s159 w160 p161 g163 rp165 hm162
          cases (show vp164 = .int p156 from rp165)
          have rfound53 := All.mo g163.s rfound53
          have eb56 := eb56.tr g163.s
          cases run_of_pure hm162
          exact (nx61 _ _ _ _ rfl ⟨_, _, _, rfl, w160, p161, eb56, rfound53⟩).1
    · rintro st22 _ S177 H178 s179 ⟨qfound170, usfound171, xoften172, rfl, w174, p175, eb176, rfound173⟩ hm180
      have hm180 := hm180.elim id id
      refine q_ret w174 p175 (c_tup (K := K) (EvL.rd (l_cat (w_own (A := (aAll (rT K (aCons rI (aOne rI))))) (j := 0) w174 rfl rfl rfound173) (EvL.rd (l_if (α := (List (Int × Int))) (t_Test (e_gt (e_var (R := rI) rfl rfl) e_cI)) (l_lstL (a_consL (e_tup (K := K) (a_cons (e_var (R := rI) rfl rfl) (a_one e_cI)) (arN_cons arN_one) (by decide)) (a_nilL (R := (rT K (aCons rI (aOne rI))))))) (l_lstL (a_nilL (R := (rT K (aCons rI (aOne rI))))))))))) hm180 ?_
      intro r188 v189 S181 H182 s183 w184 p185 g187 rr190 hm186
      cases run_of_pure hm186
      exact fin _ ⟨S181, w184.g, p185, rr190⟩
    · intro r192 v193 H' s' hr1
      exact hr1.elim
end
abbrev t_primes_to : Stmt := top 7
theorem sc_primes_to : FnScope ["many", "found", "p", "own"] ["many"] (defScope t_primes_to) := ⟨rfl, rfl, rfl, by decide +kernel, rfl, by decide +kernel, by decide +kernel⟩
@[irreducible] noncomputable def m_primes_to (p_many : Int) : Option (List Int) :=
Mir.lft (grd (List.length ([] : List Int) ≤ 16000000)) >>= fun _ => bnd ([] : List Int) fun found1 =>
Mir.lft (grd (RgB (2 : Int) ∧ RgB (p_many + (1 : Int)))) >>= fun _ => (lpS (rng (2 : Int) (p_many + (1 : Int))) (fun (x14 : Int) (st12 : (List Int)) =>
Mir.lft (grd (List.length st12 ≤ 16000000)) >>= fun _ => cmp st12 (fun x62 => Mir.lft (grd (0 < x62)) >>= fun _ => pure (some (!decide ((x14 % x62) = (0 : Int))))) >>= fun l89 => if (List.all l89 id) = true then
(Mir.lft (grd (List.length st12 < 16000000)) >>= fun _ => bnd (st12 ++ [x14]) fun found72 =>
pure found72)
else
(pure st12)) found1) >>= fun (st12 : (List Int)) =>
bnd st12 fun r108 => pure r108
noncomputable abbrev fm_primes_to : (Int) → Option (List Int) := fun a => m_primes_to a
abbrev sp_primes_to (K : PySem.W.Frag) : Sp := spN F0 fm_primes_to (fun _ => (aOne rI)) (aAll rI)
section
variable {P : Program} {w : World} {K : PySem.W.Frag} {mg : Str → Option Value} {base : Heap}
theorem g_primes_to (T : Tx mg base)  {f : Addr} {fd : FuncData} (F : Fun K "primes_to" "primes_to" t_primes_to f fd) : FnG P w K mg base CX0 1 f fd ["many"] (sp_primes_to K) := by
  refine okG0 F sc_primes_to (fun vs H Q E h => ?_) (fun cdv A outer s0_ H0 vs Q E hr gd h => ?_)
  · obtain ⟨_, _, _, _, _, _, _, _, ⟨_, rfl, _⟩, _⟩ := h
    rfl
  · obtain ⟨_, p_many, S0, s0, r, s', e0, p0, ⟨_, rfl, rfl⟩, hm0, fin0⟩ := h
    have fin : ∀ v {H' : Hp}, (∃ S' q us, v = .ref q ∧ Gm (pt0).M S0 H0 S' H' ∧ PotAt pt0 s' S' H' ∧ H0 q = none ∧ H' q = some (.lst us) ∧ S' q = none ∧ (aAll rI) r us S') → Q v H' := fun v {H'} ⟨S', q, us, h0, h1, h2, h3, h4, h5, h6⟩ => by subst h0; exact fin0 q us S' H' h1 h2 h3 h4 h5 h6
    have w0 : Wd pt0 S0 H0 S0 H0 [] := Wd.start e0
    have hm0 : Mir.run (m_primes_to p_many) s0 = some (r, s') := hm0
    unfold m_primes_to at hm0
    have sc := sc_primes_to
    refine ⟨_, pss_cons (ps_set (i := 1) sc.nd rfl (by first | exact Or.inl rfl | exact Or.inr rfl) (pe_lst (pa_nil))) (pss_cons (ps_for PassesOwn.never rfl (pi_range2 rfl T.n_range (pa_cons (pe_int) (pa_cons (pe_op op_add (pv 0) (pe_int)) pa_nil))) (pg_name (i := 2) sc.nd rfl (by first | exact Or.inl rfl | exact Or.inr rfl)) (pss_cons (ps_if (pt_val (pe_callB (k_all K) (by rfl) T.n_all (by decide +kernel) (pa_cons (pe_lc (own := [("own", 3)]) (g := (gName 3)) (tt := tYes) rfl sc.nd (k_pil K (pv 1)) (blkOk_by (N := ["many", "found", "p", "own"]) (sc := defScope t_primes_to) (by decide +kernel)) (fun _ _ _ _ _ => pg_name (i := 3) sc.nd rfl (by first | exact Or.inl rfl | exact Or.inr rfl)) (fun _ _ _ _ _ => pts_nil) (fun _ _ _ _ _ => pe_cmpR op_ne (pe_op op_mod (pv 2) (pv 3)) (pe_int) (nomark _))) pa_nil))) (pss_cons (ps_expr (pe_bm PySem.F.plainAttrs_list PySem.F.slot_list_append PySem.F.type_list_append mt_append (pv 1) (pa_cons (pv 2) pa_nil))) (pss_nil)) (pss_nil)) (pss_nil))) (pss_cons (ps_ret (pv 1)) (pss_nil))), ?_⟩
    refine q_setL (fun v => [some (.int p_many), some v, none, none]) (fun _ => rfl) w0 p0 (l_lstL (a_nilL (R := rI))) hm0 ?_
    intro found1 q9 vs10 S2 H3 s4 w5 p6 g8 rfound11 hm7
    have rfound11 : All rI _ _ _ := rfound11
    refine q_for (p := pt0) w5 p6 (i_R2 e_cI (e_add (e_var (R := rI) rfl rfl) e_cI)) (g_nm (R := rI)) hm7 (fun Sb13 st12 σ S' H' s' => Ex Sb13 S' ∧ (∃ (qfound_ : Addr) (usfound_ : List V) (xp_ : Option V), σ = [some (.int p_many), some (.ref qfound_), xp_, none] ∧ Wd pt0 S0 H0 S' H' [(qfound_, .lst usfound_)] ∧ PotAt pt0 s' S' H' ∧ Ex S2 S' ∧ All rI S' st12 usfound_)) ?_ ?_ ?_ ?_ ?_
    · intro S15 H16 s17 w18 p19 g20
      have rfound11 := All.mo g20.s rfound11
      exact ⟨Ex.rf, ⟨_, _, _, rfl, w18, p19, g20.s, rfound11⟩⟩
    · rintro Sb13 st12 _ S28 H29 s30 ⟨ex31, ⟨qfound21, usfound22, xp23, rfl, w25, p26, eb27, rfound24⟩⟩
      exact ⟨ex31, w25.i, p26, ownOk0⟩
    · rintro Sb13 st12 _ S39 H40 s41 S42 H43 ⟨ex45, ⟨qfound32, usfound33, xp34, rfl, w36, p37, eb38, rfound35⟩⟩ g44
      exact ⟨ex45.tr g44.s, _, _, _, rfl, w36.go (Gm.up g44), PotAt.go p37 g44, eb38.tr g44.s, All.mo g44.s rfound35⟩
    · rintro Sb13 x14 st12 _ σ61 S53 H54 s55 st12_ s2_ D_ ⟨ex60, ⟨qfound46, usfound47, xp48, rfl, w50, p51, eb52, rfound49⟩⟩ hp hm56 nx57
      obtain ⟨_, rfl, rfl⟩ := hp
      refine q_if w50 p51 (t_B (c_all (EvL.rd (l_lc1 (γ := Bool) (vs := [3]) (me := fun x62 k => Mir.lft (grd (0 < x62)) >>= fun _ => k (!decide ((x14 % x62) = (0 : Int)))) (R' := rB) (i_own (K := K) rfl (w50.at (i := 0) rfl).1 (w50.nmAt (i := 0) rfl) rfound49) (ownOk1 (w50.at (i := 0) rfl).1 (w50.nmAt (i := 0) rfl)) (g_nm (R := rI)) (fun x σ' S hp => by obtain ⟨_, rfl, _⟩ := hp; rfl) (fun x62 σ' S1 H1 g63 hp => by have w64 := w50.go g63; obtain ⟨_, rfl, rfl⟩ := hp; have rfound49 := All.mo g63.s rfound49; exact (e_ne (e_mod (e_var (R := rI) rfl rfl) (e_var (R := rI) rfl rfl)) e_cI)) pm_nm)))) hm56 ?_ ?_
      · intro S65 H66 s67 w68 p69 g70 hm71
        have rfound49 := All.mo g70.s rfound49
        have eb52 := eb52.tr g70.s
        have ex60 := ex60.tr g70.s
        refine q_app (j := 0) w68 p69 rfl rfl rfound49 (e_var (R := rI) rfl rfl) hm71 ?_
        intro found72 vs73 S75 H76 s77 w78 p79 e81 rfound74 hm80
        have eb52 := eb52.tr e81
        have ex60 := ex60.tr e81
        refine nx_done ?_
        cases run_of_pure hm80
        exact (nx57 _ _ _ ⟨ex60, ⟨_, _, _, rfl, w78, p79, eb52, rfound74⟩⟩).1
      · intro S82 H83 s84 w85 p86 g87 hm88
        have rfound49 := All.mo g87.s rfound49
        have eb52 := eb52.tr g87.s
        have ex60 := ex60.tr g87.s
        refine nx_done ?_
        cases run_of_pure hm88
        exact (nx57 _ _ _ ⟨ex60, ⟨_, _, _, rfl, w85, p86, eb52, rfound49⟩⟩).1
    · rintro Sb13 st12 _ S97 H98 s99 ⟨_, ⟨qfound90, usfound91, xp92, rfl, w94, p95, eb96, rfound93⟩⟩ hm100
      refine q_retO (rfl : _ = some (some (V.ref qfound90))) hm100 ?_
      intro hm106
      cases run_of_pure hm106
      exact fin _ ⟨_, _, _, rfl, w94.g, p95, (w94.at (i := 0) rfl).2.2, (w94.at (i := 0) rfl).1, (w94.at (i := 0) rfl).2.1, rfound93⟩
end
abbrev t_times_in_product : Stmt := top 9
theorem sc_times_in_product : FnScope ["n", "p", "found"] ["n", "p"] (defScope t_times_in_product) := ⟨rfl, rfl, rfl, by decide +kernel, rfl, by decide +kernel, by decide +kernel⟩
@[irreducible] noncomputable def m_times_in_product (p_n : Int) (p_p : Int) : Option Int :=
bnd (0 : Int) fun found1 =>
(whS many (fun (st11 : Int × Int) k => k (decide ((0 : Int) < st11.1))) (fun (st11 : Int × Int) =>
Mir.lft (grd (Dv p_p)) >>= fun _ => bnd (st11.1 / p_p) fun n42 =>
bnd (st11.2 + n42) fun found52 =>
pure (n42, found52)) (p_n, found1)) >>= fun (st11 : Int × Int) =>
bnd st11.2 fun r76 => pure r76
noncomputable abbrev fm_times_in_product : (Int × Int) → Option Int := fun a => m_times_in_product a.1 a.2
abbrev sp_times_in_product (K : PySem.W.Frag) : Sp := spV F0 fm_times_in_product (fun _ => (aCons rI (aOne rI))) rI
section
variable {P : Program} {w : World} {K : PySem.W.Frag} {mg : Str → Option Value} {base : Heap}
theorem g_times_in_product (T : Tx mg base)  {f : Addr} {fd : FuncData} (F : Fun K "times_in_product" "times_in_product" t_times_in_product f fd) : FnG P w K mg base CX0 1 f fd ["n", "p"] (sp_times_in_product K) := by
  refine okG0 F sc_times_in_product (fun vs H Q E h => ?_) (fun cdv A outer s0_ H0 vs Q E hr gd h => ?_)
  · obtain ⟨_, _, _, _, _, _, _, _, ⟨_, _, rfl, _, ⟨_, rfl, _⟩⟩, _⟩ := h
    rfl
  · obtain ⟨_, a, S0, s0, r, s', e0, p0, ⟨_, _, rfl, rfl, ⟨_, rfl, rfl⟩⟩, hm0, fin0⟩ := h
    obtain ⟨p_n, p_p⟩ := a
    have fin : ∀ v {H' : Hp}, (∃ S', Gm (pt0).M S0 H0 S' H' ∧ PotAt pt0 s' S' H' ∧ rI r v S') → Q v H' := fun v {H'} ⟨S', h1, h2, h3⟩ => fin0 v S' H' h1 h2 h3
    have w0 : Wd pt0 S0 H0 S0 H0 [] := Wd.start e0
    have hm0 : Mir.run (m_times_in_product p_n p_p) s0 = some (r, s') := hm0
    unfold m_times_in_product at hm0
    have sc := sc_times_in_product
    refine ⟨_, pss_cons (ps_set (i := 2) sc.nd rfl (by first | exact Or.inl rfl | exact Or.inr rfl) (pe_int)) (pss_cons (ps_while PassesOwn.never (pt_cmpR op_gt (pv 0) (pe_int) (nomark _)) (pss_cons (ps_set (i := 0) sc.nd rfl (by first | exact Or.inl rfl | exact Or.inr rfl) (pe_op op_fdivW (pv 0) (pv 1))) (pss_cons (ps_set (i := 2) sc.nd rfl (by first | exact Or.inl rfl | exact Or.inr rfl) (pe_op op_add (pv 2) (pv 0))) (pss_nil)))) (pss_cons (ps_ret (pv 2)) (pss_nil))), ?_⟩
    refine q_set (fun v => [some (.int p_n), some (.int p_p), some v]) (fun _ => rfl) w0 p0 e_cI hm0 ?_
    intro found1 vfound9 S2 H3 s4 w5 p6 g8 rfound10 hm7
    cases (show vfound9 = .int found1 from rfound10)
    refine q_wh (p := pt0) (fun st11 σ S' H' s' => σ = [some (.int st11.1), some (.int p_p), some (.int st11.2)] ∧ Wd pt0 S0 H0 S' H' [] ∧ PotAt pt0 s' S' H' ∧ Ex S2 S') ⟨rfl, w5, p6, Ex.rf⟩ hm7 ?_ ?_ ?_ ?_
    · rintro st11 _ S17 H18 s19 ⟨rfl, w14, p15, eb16⟩
      exact ⟨p15, w14.i, (t_Test (e_gt (e_var (R := rI) rfl rfl) e_cI))⟩
    · rintro st11 _ S23 H24 s25 S26 H27 s28 ⟨rfl, w20, p21, eb22⟩ g29 p30
      exact ⟨rfl, w20.go g29, p30, eb22.tr g29.s⟩
    · rintro st11 _ S34 H35 s36 st11_ s2_ D_ ⟨rfl, w31, p32, eb33⟩ hm37 nx38
      refine q_set (fun v => [some v, some (.int p_p), some (.int st11.2)]) (fun _ => rfl) w31 p32 (e_fdiv (e_var (R := rI) rfl rfl) (e_var (R := rI) rfl rfl)) hm37 ?_
      intro n42 vn50 S43 H44 s45 w46 p47 g49 rn51 hm48
      cases (show vn50 = .int n42 from rn51)
      have eb33 := eb33.tr g49.s
      refine q_set (fun v => [some (.int n42), some (.int p_p), some v]) (fun _ => rfl) w46 p47 (e_add (e_var (R := rI) rfl rfl) (e_var (R := rI) rfl rfl)) hm48 ?_
      intro found52 vfound60 S53 H54 s55 w56 p57 g59 rfound61 hm58
      cases (show vfound60 = .int found52 from rfound61)
      have eb33 := eb33.tr g59.s
      cases run_of_pure hm58
      exact (nx38 _ _ _ ⟨rfl, w56, p57, eb33⟩).1
    · rintro st11 _ S65 H66 s67 ⟨rfl, w62, p63, eb64⟩ hm68
      refine q_ret w62 p63 (e_var (R := rI) rfl rfl) hm68 ?_
      intro r76 v77 S69 H70 s71 w72 p73 g75 rr78 hm74
      cases run_of_pure hm74
      exact fin _ ⟨S69, w72.g, p73, rr78⟩
end
abbrev t_product_rest : Stmt := top 10
theorem sc_product_rest : FnScope ["n", "p", "products", "number", "found"] ["n", "p"] (defScope t_product_rest) := ⟨rfl, rfl, rfl, by decide +kernel, rfl, by decide +kernel, by decide +kernel⟩
@[irreducible] noncomputable def m_product_rest (p_n : Int) (p_p : Int) : Option Int :=
Mir.lft (grd (List.length ([(1 : Int)] : List Int) ≤ 16000000)) >>= fun _ => bnd ([(1 : Int)] : List Int) fun products1 =>
Mir.lft (grd (RgB (1 : Int) ∧ RgB p_p)) >>= fun _ => (lpS (rng (1 : Int) p_p) (fun (x14 : Int) (st12 : (List Int)) =>
Mir.lft (L2.atI st12 (-(1 : Int))) >>= fun y72 => Mir.lft (grd (Sm y72 ∧ Sm x14)) >>= fun _ => Mir.lft (grd (0 < p_p)) >>= fun _ => Mir.lft (grd (List.length st12 < 16000000)) >>= fun _ => bnd (st12 ++ [((y72 * x14) % p_p)]) fun products62 =>
pure products62) products1) >>= fun (st12 : (List Int)) =>
bnd (1 : Int) fun found84 =>
(whS many (fun (st94 : Int × Int) k => k (decide ((0 : Int) < st94.1))) (fun (st94 : Int × Int) =>
Mir.lft (grd (0 < p_p)) >>= fun _ => Mir.lft (L2.atI st12 (st94.1 % p_p)) >>= fun y155 => Mir.lft (grd (Sm st94.2 ∧ Sm y155)) >>= fun _ => bnd (st94.2 * y155) fun found125 =>
Mir.lft (grd (Dv p_p)) >>= fun _ => bnd (st94.1 / p_p) fun n135 =>
Mir.lft (grd (0 < (2 : Int))) >>= fun _ => Mir.lft (grd (0 < p_p)) >>= fun _ => bnd ((if (decide ((n135 % (2 : Int)) = (1 : Int))) = true then (-found125) else found125) % p_p) fun found145 =>
pure (n135, found145)) (p_n, found84)) >>= fun (st94 : Int × Int) =>
bnd st94.2 fun r170 => pure r170
noncomputable abbrev fm_product_rest : (Int × Int) → Option Int := fun a => m_product_rest a.1 a.2
abbrev sp_product_rest (K : PySem.W.Frag) : Sp := spV F0 fm_product_rest (fun _ => (aCons rI (aOne rI))) rI
section
variable {P : Program} {w : World} {K : PySem.W.Frag} {mg : Str → Option Value} {base : Heap}
theorem g_product_rest (T : Tx mg base)  {f : Addr} {fd : FuncData} (F : Fun K "product_rest" "product_rest" t_product_rest f fd) : FnG P w K mg base CX0 1 f fd ["n", "p"] (sp_product_rest K) := by
  refine okG0 F sc_product_rest (fun vs H Q E h => ?_) (fun cdv A outer s0_ H0 vs Q E hr gd h => ?_)
  · obtain ⟨_, _, _, _, _, _, _, _, ⟨_, _, rfl, _, ⟨_, rfl, _⟩⟩, _⟩ := h
    rfl
  · obtain ⟨_, a, S0, s0, r, s', e0, p0, ⟨_, _, rfl, rfl, ⟨_, rfl, rfl⟩⟩, hm0, fin0⟩ := h
    obtain ⟨p_n, p_p⟩ := a
    have fin : ∀ v {H' : Hp}, (∃ S', Gm (pt0).M S0 H0 S' H' ∧ PotAt pt0 s' S' H' ∧ rI r v S') → Q v H' := fun v {H'} ⟨S', h1, h2, h3⟩ => fin0 v S' H' h1 h2 h3
    have w0 : Wd pt0 S0 H0 S0 H0 [] := Wd.start e0
    have hm0 : Mir.run (m_product_rest p_n p_p) s0 = some (r, s') := hm0
    unfold m_product_rest at hm0
    have sc := sc_product_rest
    refine ⟨_, pss_cons (ps_set (i := 2) sc.nd rfl (by first | exact Or.inl rfl | exact Or.inr rfl) (pe_lst (pa_cons (pe_int) (pa_nil)))) (pss_cons (ps_for PassesOwn.never rfl (pi_range2 rfl T.n_range (pa_cons (pe_int) (pa_cons (pv 1) pa_nil))) (pg_name (i := 3) sc.nd rfl (by first | exact Or.inl rfl | exact Or.inr rfl)) (pss_cons (ps_expr (pe_bm PySem.F.plainAttrs_list PySem.F.slot_list_append PySem.F.type_list_append mt_append (pv 2) (pa_cons (pe_op op_mod (pe_op op_mulX (pe_ix (k_ixL K) (pv 2) (pe_un un_neg (pe_int)) (fun _ _ => rfl)) (pv 3)) (pv 1)) pa_nil))) (pss_nil))) (pss_cons (ps_set (i := 4) sc.nd rfl (by first | exact Or.inl rfl | exact Or.inr rfl) (pe_int)) (pss_cons (ps_while PassesOwn.never (pt_cmpR op_gt (pv 0) (pe_int) (nomark _)) (pss_cons (ps_set (i := 4) sc.nd rfl (by first | exact Or.inl rfl | exact Or.inr rfl) (pe_op op_mulX (pv 4) (pe_ix (k_ixL K) (pv 2) (pe_op op_mod (pv 0) (pv 1)) (fun _ _ => rfl)))) (pss_cons (ps_set (i := 0) sc.nd rfl (by first | exact Or.inl rfl | exact Or.inr rfl) (pe_op op_fdivW (pv 0) (pv 1))) (pss_cons (ps_set (i := 4) sc.nd rfl (by first | exact Or.inl rfl | exact Or.inr rfl) (pe_op op_mod (pe_ifExp (pt_cmpR op_eq (pe_op op_mod (pv 0) (pe_int)) (pe_int) (nomark _)) (pe_un un_neg (pv 4)) (pv 4)) (pv 1))) (pss_nil))))) (pss_cons (ps_ret (pv 4)) (pss_nil))))), ?_⟩
    refine q_setL (fun v => [some (.int p_n), some (.int p_p), some v, none, none]) (fun _ => rfl) w0 p0 (l_lstL (a_consL e_cI (a_nilL (R := rI)))) hm0 ?_
    intro products1 q9 vs10 S2 H3 s4 w5 p6 g8 rproducts11 hm7
    have rproducts11 : All rI _ _ _ := rproducts11
    refine q_for (p := pt0) w5 p6 (i_R2 e_cI (e_var (R := rI) rfl rfl)) (g_nm (R := rI)) hm7 (fun Sb13 st12 σ S' H' s' => Ex Sb13 S' ∧ (∃ (qproducts_ : Addr) (usproducts_ : List V) (xnumber_ : Option V), σ = [some (.int p_n), some (.int p_p), some (.ref qproducts_), xnumber_, none] ∧ Wd pt0 S0 H0 S' H' [(qproducts_, .lst usproducts_)] ∧ PotAt pt0 s' S' H' ∧ Ex S2 S' ∧ All rI S' st12 usproducts_)) ?_ ?_ ?_ ?_ ?_
    · intro S15 H16 s17 w18 p19 g20
      have rproducts11 := All.mo g20.s rproducts11
      exact ⟨Ex.rf, ⟨_, _, _, rfl, w18, p19, g20.s, rproducts11⟩⟩
    · rintro Sb13 st12 _ S28 H29 s30 ⟨ex31, ⟨qproducts21, usproducts22, xnumber23, rfl, w25, p26, eb27, rproducts24⟩⟩
      exact ⟨ex31, w25.i, p26, ownOk0⟩
    · rintro Sb13 st12 _ S39 H40 s41 S42 H43 ⟨ex45, ⟨qproducts32, usproducts33, xnumber34, rfl, w36, p37, eb38, rproducts35⟩⟩ g44
      exact ⟨ex45.tr g44.s, _, _, _, rfl, w36.go (Gm.up g44), PotAt.go p37 g44, eb38.tr g44.s, All.mo g44.s rproducts35⟩
    · rintro Sb13 x14 st12 _ σ61 S53 H54 s55 st12_ s2_ D_ ⟨ex60, ⟨qproducts46, usproducts47, xnumber48, rfl, w50, p51, eb52, rproducts49⟩⟩ hp hm56 nx57
      obtain ⟨_, rfl, rfl⟩ := hp
      refine q_app (j := 0) w50 p51 rfl rfl rproducts49 (e_mod (e_mul (e_ixL (w_own (A := (aAll rI)) (j := 0) w50 rfl rfl rproducts49) (e_neg e_cI)) (e_var (R := rI) rfl rfl)) (e_var (R := rI) rfl rfl)) hm56 ?_
      intro products62 vs63 S65 H66 s67 w68 p69 e71 rproducts64 hm70
      have eb52 := eb52.tr e71
      have ex60 := ex60.tr e71
      cases run_of_pure hm70
      exact (nx57 _ _ _ ⟨ex60, ⟨_, _, _, rfl, w68, p69, eb52, rproducts64⟩⟩).1
    · rintro Sb13 st12 _ S80 H81 s82 ⟨_, ⟨qproducts73, usproducts74, xnumber75, rfl, w77, p78, eb79, rproducts76⟩⟩ hm83
      refine q_set (fun v => [some (.int p_n), some (.int p_p), some (.ref qproducts73), xnumber75, some v]) (fun _ => rfl) w77 p78 e_cI hm83 ?_
      intro found84 vfound92 S85 H86 s87 w88 p89 g91 rfound93 hm90
      cases (show vfound92 = .int found84 from rfound93)
      have rproducts76 := All.mo g91.s rproducts76
      refine q_wh (p := pt0) (fun st94 σ S' H' s' => σ = [some (.int st94.1), some (.int p_p), some (.ref qproducts73), xnumber75, some (.int st94.2)] ∧ Wd pt0 S0 H0 S' H' [(qproducts73, .lst usproducts74)] ∧ PotAt pt0 s' S' H' ∧ Ex S85 S') ⟨rfl, w88, p89, Ex.rf⟩ hm90 ?_ ?_ ?_ ?_
      · rintro st94 _ S100 H101 s102 ⟨rfl, w97, p98, eb99⟩
        have rproducts76 := All.mo eb99 rproducts76
        exact ⟨p98, w97.i, (t_Test (e_gt (e_var (R := rI) rfl rfl) e_cI))⟩
      · rintro st94 _ S106 H107 s108 S109 H110 s111 ⟨rfl, w103, p104, eb105⟩ g112 p113
        exact ⟨rfl, w103.go g112, p113, eb105.tr g112.s⟩
      · rintro st94 _ S117 H118 s119 st94_ s2_ D_ ⟨rfl, w114, p115, eb116⟩ hm120 nx121
        have rproducts76 := All.mo eb116 rproducts76
        refine q_set (fun v => [some (.int st94.1), some (.int p_p), some (.ref qproducts73), xnumber75, some v]) (fun _ => rfl) w114 p115 (e_mul (e_var (R := rI) rfl rfl) (e_ixL (w_own (A := (aAll rI)) (j := 0) w114 rfl rfl rproducts76) (e_mod (e_var (R := rI) rfl rfl) (e_var (R := rI) rfl rfl)))) hm120 ?_
        intro found125 vfound133 S126 H127 s128 w129 p130 g132 rfound134 hm131
        cases (show vfound133 = .int found125 from rfound134)
        have rproducts76 := All.mo g132.s rproducts76
        have eb116 := eb116.tr g132.s
        refine q_set (fun v => [some v, some (.int p_p), some (.ref qproducts73), xnumber75, some (.int found125)]) (fun _ => rfl) w129 p130 (e_fdiv (e_var (R := rI) rfl rfl) (e_var (R := rI) rfl rfl)) hm131 ?_
        intro n135 vn143 S136 H137 s138 w139 p140 g142 rn144 hm141
        cases (show vn143 = .int n135 from rn144)
        have rproducts76 := All.mo g142.s rproducts76
        have eb116 := eb116.tr g142.s
        refine q_set (fun v => [some (.int n135), some (.int p_p), some (.ref qproducts73), xnumber75, some v]) (fun _ => rfl) w139 p140 (e_mod (e_ifT (R := rI) (t_Test (e_eq (e_mod (e_var (R := rI) rfl rfl) e_cI) e_cI)) (e_neg (e_var (R := rI) rfl rfl)) (e_var (R := rI) rfl rfl)) (e_var (R := rI) rfl rfl)) hm141 ?_
        intro found145 vfound153 S146 H147 s148 w149 p150 g152 rfound154 hm151
        cases (show vfound153 = .int found145 from rfound154)
        have rproducts76 := All.mo g152.s rproducts76
        have eb116 := eb116.tr g152.s
        cases run_of_pure hm151
        exact (nx121 _ _ _ ⟨rfl, w149, p150, eb116⟩).1
      · rintro st94 _ S159 H160 s161 ⟨rfl, w156, p157, eb158⟩ hm162
        have rproducts76 := All.mo eb158 rproducts76
        refine q_ret w156 p157 (e_var (R := rI) rfl rfl) hm162 ?_
        intro r170 v171 S163 H164 s165 w166 p167 g169 rr172 hm168
        cases run_of_pure hm168
        exact fin _ ⟨S163, w166.g, p167, rr172⟩
end
abbrev t_end_noughts : Stmt := top 11
theorem sc_end_noughts : FnScope ["n", "base", "p", "k"] ["n", "base"] (defScope t_end_noughts) := ⟨rfl, rfl, rfl, by decide +kernel, rfl, by decide +kernel, by decide +kernel⟩
@[irreducible] noncomputable def m_end_noughts (p_n : Int) (p_base : Int) : Option Int :=
Mir.lft (m_primes_of p_base) >>= fun r18 => Mir.lft (grd (List.length r18 ≤ 16000000)) >>= fun _ => cmp r18 (fun x1 => Mir.lft (m_times_in_product p_n x1.1) >>= fun r5 => Mir.lft (grd (Dv x1.2)) >>= fun _ => pure (some (r5 / x1.2))) >>= fun l17 => Mir.lft (List.min? l17) >>= fun y16 => bnd y16 fun r13 => pure r13
noncomputable abbrev fm_end_noughts : (Int × Int) → Option Int := fun a => m_end_noughts a.1 a.2
abbrev sp_end_noughts (K : PySem.W.Frag) : Sp := spV F0 fm_end_noughts (fun _ => (aCons rI (aOne rI))) rI
section
variable {P : Program} {w : World} {K : PySem.W.Frag} {mg : Str → Option Value} {base : Heap}
theorem g_end_noughts (T : Tx mg base) (D0 : Dk P w K mg base "primes_of" t_primes_of 4 ["number"] (sp_primes_of K)) (D1 : Dk P w K mg base "times_in_product" t_times_in_product 1 ["n", "p"] (sp_times_in_product K)) {f : Addr} {fd : FuncData} (F : Fun K "end_noughts" "end_noughts" t_end_noughts f fd) : FnG P w K mg base CX0 5 f fd ["n", "base"] (sp_end_noughts K) := by
  obtain ⟨f0, fd0, F0, m0, G0, b0⟩ := D0
  obtain ⟨f1, fd1, F1, m1, G1, b1⟩ := D1
  refine okG0 F sc_end_noughts (fun vs H Q E h => ?_) (fun cdv A outer s0_ H0 vs Q E hr gd h => ?_)
  · obtain ⟨_, _, _, _, _, _, _, _, ⟨_, _, rfl, _, ⟨_, rfl, _⟩⟩, _⟩ := h
    rfl
  · obtain ⟨_, a, S0, s0, r, s', e0, p0, ⟨_, _, rfl, rfl, ⟨_, rfl, rfl⟩⟩, hm0, fin0⟩ := h
    obtain ⟨p_n, p_base⟩ := a
    have fin : ∀ v {H' : Hp}, (∃ S', Gm (pt0).M S0 H0 S' H' ∧ PotAt pt0 s' S' H' ∧ rI r v S') → Q v H' := fun v {H'} ⟨S', h1, h2, h3⟩ => fin0 v S' H' h1 h2 h3
    have w0 : Wd pt0 S0 H0 S0 H0 [] := Wd.start e0
    have hm0 : Mir.run (m_end_noughts p_n p_base) s0 = some (r, s') := hm0
    unfold m_end_noughts at hm0
    have sc := sc_end_noughts
    refine ⟨_, pss_cons (ps_ret (pe_callB (k_min K) (by rfl) T.n_min (by decide +kernel) (pa_cons (pe_lc (own := [("p", 2), ("k", 3)]) (g := (gTup K 2 (gCons (gName 2) (gCons (gName 3) gNil)))) (tt := tYes) rfl sc.nd (k_pit K (pe_cG G0 (hr.mono (by decide)) gd rfl m0 F0.kp b0 pass0 (pa_cons (pv 1) (pa_nil)))) (blkOk_by (N := ["n", "base", "p", "k"]) (sc := defScope t_end_noughts) (by decide +kernel)) (fun _ _ _ _ _ => k_gt K (pgs_cons (pg_name (i := 2) sc.nd rfl (by first | exact Or.inl rfl | exact Or.inr rfl)) (pgs_cons (pg_name (i := 3) sc.nd rfl (by first | exact Or.inl rfl | exact Or.inr rfl)) (pgs_nil)))) (fun _ _ _ _ _ => pts_nil) (fun _ _ _ _ _ => pe_op op_fdivW (pe_cG G1 (hr.mono (by decide)) gd rfl m1 F1.kp b1 pass0 (pa_cons (pv 0) (pa_cons (pv 2) (pa_nil)))) (pv 3))) pa_nil))) (pss_nil), ?_⟩
    refine q_ret w0 p0 (c_min (EvL.rd (l_lc1 (γ := Int) (vs := [2, 3]) (me := fun x1 k => Mir.lft (m_times_in_product p_n x1.1) >>= fun r4 => Mir.lft (grd (Dv x1.2)) >>= fun _ => k (r4 / x1.2)) (R' := rI) (i_T (e_call (E := E0) (fm := fm_primes_of) (R := (rT K (aAll (rT K (aCons rI (aOne rI)))))) (a_one (e_var (R := rI) rfl rfl)))) ownOk0 (g_tp (gq_cons (g_nm (R := rI)) (gq_one (g_nm (R := rI))))) (fun x σ' S hp => by obtain ⟨_, ⟨_, rfl, _⟩, ⟨_, rfl, _⟩⟩ := hp; rfl) (fun x1 σ' S1 H1 g2 hp => by have w3 := w0.go g2; obtain ⟨_, ⟨_, rfl, rfl⟩, ⟨_, rfl, rfl⟩⟩ := hp; exact (e_fdiv (e_call (E := E0) (fm := fm_times_in_product) (R := rI) (a_cons (e_var (R := rI) rfl rfl) (a_one (e_var (R := rI) rfl rfl)))) (e_var (R := rI) rfl rfl))) (pm_cons pm_nm pm_nm)))) hm0 ?_
    intro r13 v14 S6 H7 s8 w9 p10 g12 rr15 hm11
    cases run_of_pure hm11
    exact fin _ ⟨S6, w9.g, p10, rr15⟩
end
abbrev t_product_parting : Stmt := top 12
theorem sc_product_parting : FnScope ["n", "p"] ["n"] (defScope t_product_parting) := ⟨rfl, rfl, rfl, by decide +kernel, rfl, by decide +kernel, by decide +kernel⟩
@[irreducible] noncomputable def m_product_parting (p_n : Int) : Option (List (Int × Int)) :=
Mir.lft (m_primes_to p_n) >>= fun r17 => Mir.lft (grd (List.length r17 ≤ 16000000)) >>= fun _ => cmp r17 (fun x1 => Mir.lft (m_times_in_product p_n x1) >>= fun r5 => pure (some (x1, r5))) >>= fun l16 => bnd l16 fun r13 => pure r13
noncomputable abbrev fm_product_parting : (Int) → Option (List (Int × Int)) := fun a => m_product_parting a
abbrev sp_product_parting (K : PySem.W.Frag) : Sp := spV F0 fm_product_parting (fun _ => (aOne rI)) (rT K (aAll (rT K (aCons rI (aOne rI)))))
section
variable {P : Program} {w : World} {K : PySem.W.Frag} {mg : Str → Option Value} {base : Heap}
theorem g_product_parting (T : Tx mg base) (D0 : Dk P w K mg base "primes_to" t_primes_to 1 ["many"] (sp_primes_to K)) (D1 : Dk P w K mg base "times_in_product" t_times_in_product 1 ["n", "p"] (sp_times_in_product K)) {f : Addr} {fd : FuncData} (F : Fun K "product_parting" "product_parting" t_product_parting f fd) : FnG P w K mg base CX0 2 f fd ["n"] (sp_product_parting K) := by
  obtain ⟨f0, fd0, F0, m0, G0, b0⟩ := D0
  obtain ⟨f1, fd1, F1, m1, G1, b1⟩ := D1
  refine okG0 F sc_product_parting (fun vs H Q E h => ?_) (fun cdv A outer s0_ H0 vs Q E hr gd h => ?_)
  · obtain ⟨_, _, _, _, _, _, _, _, ⟨_, rfl, _⟩, _⟩ := h
    rfl
  · obtain ⟨_, p_n, S0, s0, r, s', e0, p0, ⟨_, rfl, rfl⟩, hm0, fin0⟩ := h
    have fin : ∀ v {H' : Hp}, (∃ S', Gm (pt0).M S0 H0 S' H' ∧ PotAt pt0 s' S' H' ∧ (rT K (aAll (rT K (aCons rI (aOne rI))))) r v S') → Q v H' := fun v {H'} ⟨S', h1, h2, h3⟩ => fin0 v S' H' h1 h2 h3
    have w0 : Wd pt0 S0 H0 S0 H0 [] := Wd.start e0
    have hm0 : Mir.run (m_product_parting p_n) s0 = some (r, s') := hm0
    unfold m_product_parting at hm0
    have sc := sc_product_parting
    refine ⟨_, pss_cons (ps_ret (pe_callTy (k_tupOf K) (by rfl) T.n_tuple (by decide +kernel) (pa_cons (pe_lc (own := [("p", 1)]) (g := (gName 1)) (tt := tYes) rfl sc.nd (k_pil K (pe_cG G0 (hr.mono (by decide)) gd rfl m0 F0.kp b0 pass0 (pa_cons (pv 0) (pa_nil)))) (blkOk_by (N := ["n", "p"]) (sc := defScope t_product_parting) (by decide +kernel)) (fun _ _ _ _ _ => pg_name (i := 1) sc.nd rfl (by first | exact Or.inl rfl | exact Or.inr rfl)) (fun _ _ _ _ _ => pts_nil) (fun _ _ _ _ _ => pe_tup (pa_cons (pv 1) (pa_cons (pe_cG G1 (hr.mono (by decide)) gd rfl m1 F1.kp b1 pass0 (pa_cons (pv 0) (pa_cons (pv 1) (pa_nil)))) (pa_nil))))) pa_nil))) (pss_nil), ?_⟩
    refine q_ret w0 p0 (c_tup (K := K) (EvL.rd (l_lc1 (γ := (Int × Int)) (vs := [1]) (me := fun x1 k => Mir.lft (m_times_in_product p_n x1) >>= fun r4 => k (x1, r4)) (R' := (rT K (aCons rI (aOne rI)))) (i_L (K := K) (EvL.frz (l_call (E := E0) (fm := fm_primes_to) (R := (aAll rI)) (a_one (e_var (R := rI) rfl rfl))))) ownOk0 (g_nm (R := rI)) (fun x σ' S hp => by obtain ⟨_, rfl, _⟩ := hp; rfl) (fun x1 σ' S1 H1 g2 hp => by have w3 := w0.go g2; obtain ⟨_, rfl, rfl⟩ := hp; exact (e_tup (K := K) (a_cons (e_var (R := rI) rfl rfl) (a_one (e_call (E := E0) (fm := fm_times_in_product) (R := rI) (a_cons (e_var (R := rI) rfl rfl) (a_one (e_var (R := rI) rfl rfl)))))) (arN_cons arN_one) (by decide))) pm_nm))) hm0 ?_
    intro r13 v14 S6 H7 s8 w9 p10 g12 rr15 hm11
    cases run_of_pure hm11
    exact fin _ ⟨S6, w9.g, p10, rr15⟩
end
abbrev t_all_multiple : Stmt := top 13
theorem sc_all_multiple : FnScope ["n", "found", "p", "power"] ["n"] (defScope t_all_multiple) := ⟨rfl, rfl, rfl, by decide +kernel, rfl, by decide +kernel, by decide +kernel⟩
@[irreducible] noncomputable def m_all_multiple (p_n : Int) : Option Int :=
bnd (1 : Int) fun found1 =>
Mir.lft (m_primes_to p_n) >>= fun r145 => (lpS r145 (fun (x13 : Int) (st11 : Int) =>
bnd x13 fun power55 =>
(whS many (fun (st65 : Int) k => Mir.lft (grd (Sm st65 ∧ Sm x13)) >>= fun _ => k (decide ((st65 * x13) ≤ p_n))) (fun (st65 : Int) =>
Mir.lft (grd (Sm st65 ∧ Sm x13)) >>= fun _ => bnd (st65 * x13) fun power96 =>
pure power96) power55) >>= fun (st65 : Int) =>
Mir.lft (grd (Sm st11 ∧ Sm st65)) >>= fun _ => bnd (st11 * st65) fun found113 =>
pure found113) found1) >>= fun (st11 : Int) =>
bnd st11 fun r142 => pure r142
noncomputable abbrev fm_all_multiple : (Int) → Option Int := fun a => m_all_multiple a
abbrev sp_all_multiple (K : PySem.W.Frag) : Sp := spV F0 fm_all_multiple (fun _ => (aOne rI)) rI
section
variable {P : Program} {w : World} {K : PySem.W.Frag} {mg : Str → Option Value} {base : Heap}
theorem g_all_multiple (T : Tx mg base) (D0 : Dk P w K mg base "primes_to" t_primes_to 1 ["many"] (sp_primes_to K)) {f : Addr} {fd : FuncData} (F : Fun K "all_multiple" "all_multiple" t_all_multiple f fd) : FnG P w K mg base CX0 2 f fd ["n"] (sp_all_multiple K) := by
  obtain ⟨f0, fd0, F0, m0, G0, b0⟩ := D0
  refine okG0 F sc_all_multiple (fun vs H Q E h => ?_) (fun cdv A outer s0_ H0 vs Q E hr gd h => ?_)
  · obtain ⟨_, _, _, _, _, _, _, _, ⟨_, rfl, _⟩, _⟩ := h
    rfl
  · obtain ⟨_, p_n, S0, s0, r, s', e0, p0, ⟨_, rfl, rfl⟩, hm0, fin0⟩ := h
    have fin : ∀ v {H' : Hp}, (∃ S', Gm (pt0).M S0 H0 S' H' ∧ PotAt pt0 s' S' H' ∧ rI r v S') → Q v H' := fun v {H'} ⟨S', h1, h2, h3⟩ => fin0 v S' H' h1 h2 h3
    have w0 : Wd pt0 S0 H0 S0 H0 [] := Wd.start e0
    have hm0 : Mir.run (m_all_multiple p_n) s0 = some (r, s') := hm0
    unfold m_all_multiple at hm0
    have sc := sc_all_multiple
    refine ⟨_, pss_cons (ps_set (i := 1) sc.nd rfl (by first | exact Or.inl rfl | exact Or.inr rfl) (pe_int)) (pss_cons (ps_for PassesOwn.never rfl (k_pil K (pe_cG G0 (hr.mono (by decide)) gd rfl m0 F0.kp b0 pass0 (pa_cons (pv 0) (pa_nil)))) (pg_name (i := 2) sc.nd rfl (by first | exact Or.inl rfl | exact Or.inr rfl)) (pss_cons (ps_set (i := 3) sc.nd rfl (by first | exact Or.inl rfl | exact Or.inr rfl) (pv 2)) (pss_cons (ps_while PassesOwn.never (pt_cmpR op_le (pe_op op_mulX (pv 3) (pv 2)) (pv 0) (nomark _)) (pss_cons (ps_set (i := 3) sc.nd rfl (by first | exact Or.inl rfl | exact Or.inr rfl) (pe_op op_mulX (pv 3) (pv 2))) (pss_nil))) (pss_cons (ps_set (i := 1) sc.nd rfl (by first | exact Or.inl rfl | exact Or.inr rfl) (pe_op op_mulX (pv 1) (pv 3))) (pss_nil))))) (pss_cons (ps_ret (pv 1)) (pss_nil))), ?_⟩
    refine q_set (fun v => [some (.int p_n), some v, none, none]) (fun _ => rfl) w0 p0 e_cI hm0 ?_
    intro found1 vfound9 S2 H3 s4 w5 p6 g8 rfound10 hm7
    cases (show vfound9 = .int found1 from rfound10)
    refine q_for (p := pt0) w5 p6 (i_L (K := K) (EvL.frz (l_call (E := E0) (fm := fm_primes_to) (R := (aAll rI)) (a_one (e_var (R := rI) rfl rfl))))) (g_nm (R := rI)) hm7 (fun Sb12 st11 σ S' H' s' => Ex Sb12 S' ∧ (∃ (xp_ : Option V) (xpower_ : Option V), σ = [some (.int p_n), some (.int st11), xp_, xpower_] ∧ Wd pt0 S0 H0 S' H' [] ∧ PotAt pt0 s' S' H' ∧ Ex S2 S')) ?_ ?_ ?_ ?_ ?_
    · intro S14 H15 s16 w17 p18 g19
      exact ⟨Ex.rf, ⟨_, _, rfl, w17, p18, g19.s⟩⟩
    · rintro Sb12 st11 _ S25 H26 s27 ⟨ex28, ⟨xp20, xpower21, rfl, w22, p23, eb24⟩⟩
      exact ⟨ex28, w22.i, p23, ownOk0⟩
    · rintro Sb12 st11 _ S34 H35 s36 S37 H38 ⟨ex40, ⟨xp29, xpower30, rfl, w31, p32, eb33⟩⟩ g39
      exact ⟨ex40.tr g39.s, _, _, rfl, w31.go (Gm.up g39), PotAt.go p32 g39, eb33.tr g39.s⟩
    · rintro Sb12 x13 st11 _ σ54 S46 H47 s48 st11_ s2_ D_ ⟨ex53, ⟨xp41, xpower42, rfl, w43, p44, eb45⟩⟩ hp hm49 nx50
      obtain ⟨_, rfl, rfl⟩ := hp
      refine q_set (fun v => [some (.int p_n), some (.int st11), some (.int x13), some v]) (fun _ => rfl) w43 p44 (e_var (R := rI) rfl rfl) hm49 ?_
      intro power55 vpower63 S56 H57 s58 w59 p60 g62 rpower64 hm61
      cases (show vpower63 = .int power55 from rpower64)
      have eb45 := eb45.tr g62.s
      have ex53 := ex53.tr g62.s
      refine q_wh (p := pt0) (fun st65 σ S' H' s' => σ = [some (.int p_n), some (.int st11), some (.int x13), some (.int st65)] ∧ Wd pt0 S0 H0 S' H' [] ∧ PotAt pt0 s' S' H' ∧ Ex S56 S') ⟨rfl, w59, p60, Ex.rf⟩ hm61 ?_ ?_ ?_ ?_
      · rintro st65 _ S71 H72 s73 ⟨rfl, w68, p69, eb70⟩
        have eb45 := eb45.tr eb70
        have ex53 := ex53.tr eb70
        exact ⟨p69, w68.i, (t_Test (e_le (e_mul (e_var (R := rI) rfl rfl) (e_var (R := rI) rfl rfl)) (e_var (R := rI) rfl rfl)))⟩
      · rintro st65 _ S77 H78 s79 S80 H81 s82 ⟨rfl, w74, p75, eb76⟩ g83 p84
        exact ⟨rfl, w74.go g83, p84, eb76.tr g83.s⟩
      · rintro st65 _ S88 H89 s90 st65_ s2_ D_ ⟨rfl, w85, p86, eb87⟩ hm91 nx92
        have eb45 := eb45.tr eb87
        have ex53 := ex53.tr eb87
        refine q_set (fun v => [some (.int p_n), some (.int st11), some (.int x13), some v]) (fun _ => rfl) w85 p86 (e_mul (e_var (R := rI) rfl rfl) (e_var (R := rI) rfl rfl)) hm91 ?_
        intro power96 vpower104 S97 H98 s99 w100 p101 g103 rpower105 hm102
        cases (show vpower104 = .int power96 from rpower105)
        have eb45 := eb45.tr g103.s
        have ex53 := ex53.tr g103.s
        have eb87 := eb87.tr g103.s
        cases run_of_pure hm102
        exact (nx92 _ _ _ ⟨rfl, w100, p101, eb87⟩).1
      · rintro st65 _ S109 H110 s111 ⟨rfl, w106, p107, eb108⟩ hm112
        have eb45 := eb45.tr eb108
        have ex53 := ex53.tr eb108
        refine q_set (fun v => [some (.int p_n), some v, some (.int x13), some (.int st65)]) (fun _ => rfl) w106 p107 (e_mul (e_var (R := rI) rfl rfl) (e_var (R := rI) rfl rfl)) hm112 ?_
        intro found113 vfound121 S114 H115 s116 w117 p118 g120 rfound122 hm119
        cases (show vfound121 = .int found113 from rfound122)
        have eb45 := eb45.tr g120.s
        have ex53 := ex53.tr g120.s
        cases run_of_pure hm119
        exact (nx50 _ _ _ ⟨ex53, ⟨_, _, rfl, w117, p118, eb45⟩⟩).1
    · rintro Sb12 st11 _ S131 H132 s133 ⟨_, ⟨xp126, xpower127, rfl, w128, p129, eb130⟩⟩ hm134
      refine q_ret w128 p129 (e_var (R := rI) rfl rfl) hm134 ?_
      intro r142 v143 S135 H136 s137 w138 p139 g141 rr144 hm140
      cases run_of_pure hm140
      exact fin _ ⟨S135, w138.g, p139, rr144⟩
end
abbrev t_figures_told : Stmt := top 15
theorem sc_figures_told : FnScope ["n", "p", "found"] ["n", "p"] (defScope t_figures_told) := ⟨rfl, rfl, rfl, by decide +kernel, rfl, by decide +kernel, by decide +kernel⟩
@[irreducible] noncomputable def m_figures_told (p_n : Int) (p_p : Int) : Option (List Int) :=
Mir.lft (grd (List.length ([] : List Int) ≤ 16000000)) >>= fun _ => bnd ([] : List Int) fun found1 =>
(whS many (fun (st12 : Int × (List Int)) k => k (decide ((0 : Int) < st12.1))) (fun (st12 : Int × (List Int)) =>
Mir.lft (grd (0 < p_p)) >>= fun _ => Mir.lft (grd (List.length st12.2 < 16000000)) >>= fun _ => bnd (st12.2 ++ [(st12.1 % p_p)]) fun found52 =>
Mir.lft (grd (Dv p_p)) >>= fun _ => bnd (st12.1 / p_p) fun n62 =>
pure (n62, found52)) (p_n, found1)) >>= fun (st12 : Int × (List Int)) =>
bnd st12.2 fun r89 => pure r89
noncomputable abbrev fm_figures_told : (Int × Int) → Option (List Int) := fun a => m_figures_told a.1 a.2
abbrev sp_figures_told (K : PySem.W.Frag) : Sp := spV F0 fm_figures_told (fun _ => (aCons rI (aOne rI))) (rT K (aAll rI))
section
variable {P : Program} {w : World} {K : PySem.W.Frag} {mg : Str → Option Value} {base : Heap}
theorem g_figures_told (T : Tx mg base)  {f : Addr} {fd : FuncData} (F : Fun K "figures_told" "figures_told" t_figures_told f fd) : FnG P w K mg base CX0 1 f fd ["n", "p"] (sp_figures_told K) := by
  refine okG0 F sc_figures_told (fun vs H Q E h => ?_) (fun cdv A outer s0_ H0 vs Q E hr gd h => ?_)
  · obtain ⟨_, _, _, _, _, _, _, _, ⟨_, _, rfl, _, ⟨_, rfl, _⟩⟩, _⟩ := h
    rfl
  · obtain ⟨_, a, S0, s0, r, s', e0, p0, ⟨_, _, rfl, rfl, ⟨_, rfl, rfl⟩⟩, hm0, fin0⟩ := h
    obtain ⟨p_n, p_p⟩ := a
    have fin : ∀ v {H' : Hp}, (∃ S', Gm (pt0).M S0 H0 S' H' ∧ PotAt pt0 s' S' H' ∧ (rT K (aAll rI)) r v S') → Q v H' := fun v {H'} ⟨S', h1, h2, h3⟩ => fin0 v S' H' h1 h2 h3
    have w0 : Wd pt0 S0 H0 S0 H0 [] := Wd.start e0
    have hm0 : Mir.run (m_figures_told p_n p_p) s0 = some (r, s') := hm0
    unfold m_figures_told at hm0
    have sc := sc_figures_told
    refine ⟨_, pss_cons (ps_set (i := 2) sc.nd rfl (by first | exact Or.inl rfl | exact Or.inr rfl) (pe_lst (pa_nil))) (pss_cons (ps_while PassesOwn.never (pt_cmpR op_gt (pv 0) (pe_int) (nomark _)) (pss_cons (ps_expr (pe_bm PySem.F.plainAttrs_list PySem.F.slot_list_append PySem.F.type_list_append mt_append (pv 2) (pa_cons (pe_op op_mod (pv 0) (pv 1)) pa_nil))) (pss_cons (ps_set (i := 0) sc.nd rfl (by first | exact Or.inl rfl | exact Or.inr rfl) (pe_op op_fdivW (pv 0) (pv 1))) (pss_nil)))) (pss_cons (ps_ret (pe_callTy (k_tupOf K) (by rfl) T.n_tuple (by decide +kernel) (pa_cons (pv 2) pa_nil))) (pss_nil))), ?_⟩
    refine q_setL (fun v => [some (.int p_n), some (.int p_p), some v]) (fun _ => rfl) w0 p0 (l_lstL (a_nilL (R := rI))) hm0 ?_
    intro found1 q9 vs10 S2 H3 s4 w5 p6 g8 rfound11 hm7
    have rfound11 : All rI _ _ _ := rfound11
    refine q_wh (p := pt0) (fun st12 σ S' H' s' => ∃ (qfound_ : Addr) (usfound_ : List V), σ = [some (.int st12.1), some (.int p_p), some (.ref qfound_)] ∧ Wd pt0 S0 H0 S' H' [(qfound_, .lst usfound_)] ∧ PotAt pt0 s' S' H' ∧ Ex S2 S' ∧ All rI S' st12.2 usfound_) ⟨_, _, rfl, w5, p6, Ex.rf, rfound11⟩ hm7 ?_ ?_ ?_ ?_
    · rintro st12 _ S21 H22 s23 ⟨qfound15, usfound16, rfl, w18, p19, eb20, rfound17⟩
      exact ⟨p19, w18.i, (t_Test (e_gt (e_var (R := rI) rfl rfl) e_cI))⟩
    · rintro st12 _ S30 H31 s32 S33 H34 s35 ⟨qfound24, usfound25, rfl, w27, p28, eb29, rfound26⟩ g36 p37
      exact ⟨_, _, rfl, w27.go g36, p37, eb29.tr g36.s, All.mo g36.s rfound26⟩
    · rintro st12 _ S44 H45 s46 st12_ s2_ D_ ⟨qfound38, usfound39, rfl, w41, p42, eb43, rfound40⟩ hm47 nx48
      refine q_app (j := 0) w41 p42 rfl rfl rfound40 (e_mod (e_var (R := rI) rfl rfl) (e_var (R := rI) rfl rfl)) hm47 ?_
      intro found52 vs53 S55 H56 s57 w58 p59 e61 rfound54 hm60
      have eb43 := eb43.tr e61
      refine q_set (fun v => [some v, some (.int p_p), some (.ref qfound38)]) (fun _ => rfl) w58 p59 (e_fdiv (e_var (R := rI) rfl rfl) (e_var (R := rI) rfl rfl)) hm60 ?_
      intro n62 vn70 S63 H64 s65 w66 p67 g69 rn71 hm68
      cases (show vn70 = .int n62 from rn71)
      have rfound54 := All.mo g69.s rfound54
      have eb43 := eb43.tr g69.s
      cases run_of_pure hm68
      exact (nx48 _ _ _ ⟨_, _, rfl, w66, p67, eb43, rfound54⟩).1
    · rintro st12 _ S78 H79 s80 ⟨qfound72, usfound73, rfl, w75, p76, eb77, rfound74⟩ hm81
      refine q_ret w75 p76 (c_tup (K := K) (w_own (A := (aAll rI)) (j := 0) w75 rfl rfl rfound74)) hm81 ?_
      intro r89 v90 S82 H83 s84 w85 p86 g88 rr91 hm87
      cases run_of_pure hm87
      exact fin _ ⟨S82, w85.g, p86, rr91⟩
end
abbrev t_carried_places : Stmt := top 16
theorem sc_carried_places : FnScope ["n", "k", "p", "one", "other", "carry", "place", "found"] ["n", "k", "p"] (defScope t_carried_places) := ⟨rfl, rfl, rfl, by decide +kernel, rfl, by decide +kernel, by decide +kernel⟩
@[irreducible] noncomputable def m_carried_places (p_n : Int) (p_k : Int) (p_p : Int) : Option (List Int) :=
bnd p_k fun one1 =>
bnd (p_n - p_k) fun other11 =>
bnd (0 : Int) fun carry21 =>
bnd (0 : Int) fun place31 =>
Mir.lft (grd (List.length ([] : List Int) ≤ 16000000)) >>= fun _ => bnd ([] : List Int) fun found41 =>
(whS many (fun (st57 : Int × Int × Int × Int × (List Int)) k => k (decide ((0 : Int) < ((st57.1 + st57.2.1) + st57.2.2.1)))) (fun (st57 : Int × Int × Int × Int × (List Int)) =>
Mir.lft (grd (0 < p_p)) >>= fun _ => Mir.lft (grd (0 < p_p)) >>= fun _ => bnd (if (decide (p_p ≤ (((st57.1 % p_p) + (st57.2.1 % p_p)) + st57.2.2.1))) = true then (1 : Int) else 0) fun carry97 =>
((if (decide (carry97 = (1 : Int))) = true then
(Mir.lft (grd (List.length st57.2.2.2.2 < 16000000)) >>= fun _ => bnd (st57.2.2.2.2 ++ [st57.2.2.2.1]) fun found117 =>
pure found117)
else
(pure st57.2.2.2.2)) >>= fun (st107 : (List Int)) =>
Mir.lft (grd (Dv p_p)) >>= fun _ => bnd (st57.1 / p_p) fun one146 =>
Mir.lft (grd (Dv p_p)) >>= fun _ => bnd (st57.2.1 / p_p) fun other156 =>
bnd (st57.2.2.2.1 + (1 : Int)) fun place166 =>
pure (one146, other156, carry97, place166, st107))) (one1, other11, carry21, place31, found41)) >>= fun (st57 : Int × Int × Int × Int × (List Int)) =>
bnd st57.2.2.2.2 fun r193 => pure r193
noncomputable abbrev fm_carried_places : (Int × Int × Int) → Option (List Int) := fun a => m_carried_places a.1 a.2.1 a.2.2
abbrev sp_carried_places (K : PySem.W.Frag) : Sp := spV F0 fm_carried_places (fun _ => (aCons rI (aCons rI (aOne rI)))) (rT K (aAll rI))
section
variable {P : Program} {w : World} {K : PySem.W.Frag} {mg : Str → Option Value} {base : Heap}
theorem g_carried_places (T : Tx mg base)  {f : Addr} {fd : FuncData} (F : Fun K "carried_places" "carried_places" t_carried_places f fd) : FnG P w K mg base CX0 1 f fd ["n", "k", "p"] (sp_carried_places K) := by
  refine okG0 F sc_carried_places (fun vs H Q E h => ?_) (fun cdv A outer s0_ H0 vs Q E hr gd h => ?_)
  · obtain ⟨_, _, _, _, _, _, _, _, ⟨_, _, rfl, _, ⟨_, _, rfl, _, ⟨_, rfl, _⟩⟩⟩, _⟩ := h
    rfl
  · obtain ⟨_, a, S0, s0, r, s', e0, p0, ⟨_, _, rfl, rfl, ⟨_, _, rfl, rfl, ⟨_, rfl, rfl⟩⟩⟩, hm0, fin0⟩ := h
    obtain ⟨p_n, p_k, p_p⟩ := a
    have fin : ∀ v {H' : Hp}, (∃ S', Gm (pt0).M S0 H0 S' H' ∧ PotAt pt0 s' S' H' ∧ (rT K (aAll rI)) r v S') → Q v H' := fun v {H'} ⟨S', h1, h2, h3⟩ => fin0 v S' H' h1 h2 h3
    have w0 : Wd pt0 S0 H0 S0 H0 [] := Wd.start e0
    have hm0 : Mir.run (m_carried_places p_n p_k p_p) s0 = some (r, s') := hm0
    unfold m_carried_places at hm0
    have sc := sc_carried_places
    refine ⟨_, pss_cons (ps_asg (pe_tup (pa_cons (pv 1) (pa_cons (pe_op op_sub (pv 0) (pv 1)) (pa_cons (pe_int) (pa_cons (pe_int) (pa_cons (pe_lst (pa_nil)) (pa_nil))))))) (k_gt K (pgs_cons (pg_name (i := 3) sc.nd rfl (by first | exact Or.inl rfl | exact Or.inr rfl)) (pgs_cons (pg_name (i := 4) sc.nd rfl (by first | exact Or.inl rfl | exact Or.inr rfl)) (pgs_cons (pg_name (i := 5) sc.nd rfl (by first | exact Or.inl rfl | exact Or.inr rfl)) (pgs_cons (pg_name (i := 6) sc.nd rfl (by first | exact Or.inl rfl | exact Or.inr rfl)) (pgs_cons (pg_name (i := 7) sc.nd rfl (by first | exact Or.inl rfl | exact Or.inr rfl)) (pgs_nil)))))))) (pss_cons (ps_while PassesOwn.never (pt_cmpR op_gt (pe_op op_add (pe_op op_add (pv 3) (pv 4)) (pv 5)) (pe_int) (nomark _)) (pss_cons (ps_set (i := 5) sc.nd rfl (by first | exact Or.inl rfl | exact Or.inr rfl) (pe_callTy call_int1 (by rfl) T.n_int (by decide +kernel) (pa_cons (pe_cmpR op_ge (pe_op op_add (pe_op op_add (pe_op op_mod (pv 3) (pv 2)) (pe_op op_mod (pv 4) (pv 2))) (pv 5)) (pv 2) (nomark _)) pa_nil))) (pss_cons (ps_if (pt_cmpR op_eq (pv 5) (pe_int) (nomark _)) (pss_cons (ps_expr (pe_bm PySem.F.plainAttrs_list PySem.F.slot_list_append PySem.F.type_list_append mt_append (pv 7) (pa_cons (pv 6) pa_nil))) (pss_nil)) (pss_nil)) (pss_cons (ps_par3 (i := 3) (j := 4) (l := 6) rfl sc.nd rfl rfl rfl (by decide) (by decide) (by decide) rfl rfl rfl (pa_cons (pe_op op_fdivW (pv 3) (pv 2)) (pa_cons (pe_op op_fdivW (pv 4) (pv 2)) (pa_cons (pe_op op_add (pv 6) (pe_int)) (pa_nil)))) (by rfl)) (pss_nil))))) (pss_cons (ps_ret (pe_callTy (k_tupOf K) (by rfl) T.n_tuple (by decide +kernel) (pa_cons (pv 7) pa_nil))) (pss_nil))), ?_⟩
    refine tup5_go ?_
    refine x_ev w0 p0 (e_var (R := rI) rfl rfl) hm0 ?_
    intro one1 vone9 S2 H3 s4 w5 p6 g8 rone10 hm7
    cases (show vone9 = .int one1 from rone10)
    refine x_ev w5 p6 (e_sub (e_var (R := rI) rfl rfl) (e_var (R := rI) rfl rfl)) hm7 ?_
    intro other11 vother19 S12 H13 s14 w15 p16 g18 rother20 hm17
    cases (show vother19 = .int other11 from rother20)
    refine x_ev w15 p16 e_cI hm17 ?_
    intro carry21 vcarry29 S22 H23 s24 w25 p26 g28 rcarry30 hm27
    cases (show vcarry29 = .int carry21 from rcarry30)
    refine x_ev w25 p26 e_cI hm27 ?_
    intro place31 vplace39 S32 H33 s34 w35 p36 g38 rplace40 hm37
    cases (show vplace39 = .int place31 from rplace40)
    refine x_evL w35 p36 (l_lstL (a_nilL (R := rI))) hm37 ?_
    intro found41 q49 vs50 S42 H43 s44 w45 p46 g48 rfound51 hm47
    have rfound51 : All rI _ _ _ := rfound51
    refine tup_end (is := [3, 4, 5, 6, 7]) [some (.int p_n), some (.int p_k), some (.int p_p), some (.int one1), some (.int other11), some (.int carry21), some (.int place31), some (.ref q49)] w45 p46 rfl (by simp) rfl ?_
    intro S52 H53 w54 p55 g56
    have rfound51 := All.mo g56.s rfound51
    refine q_wh (p := pt0) (fun st57 σ S' H' s' => ∃ (qfound_ : Addr) (usfound_ : List V), σ = [some (.int p_n), some (.int p_k), some (.int p_p), some (.int st57.1), some (.int st57.2.1), some (.int st57.2.2.1), some (.int st57.2.2.2.1), some (.ref qfound_)] ∧ Wd pt0 S0 H0 S' H' [(qfound_, .lst usfound_)] ∧ PotAt pt0 s' S' H' ∧ Ex S52 S' ∧ All rI S' st57.2.2.2.2 usfound_) ⟨_, _, rfl, w54, p55, Ex.rf, rfound51⟩ hm47 ?_ ?_ ?_ ?_
    · rintro st57 _ S66 H67 s68 ⟨qfound60, usfound61, rfl, w63, p64, eb65, rfound62⟩
      exact ⟨p64, w63.i, (t_Test (e_gt (e_add (e_add (e_var (R := rI) rfl rfl) (e_var (R := rI) rfl rfl)) (e_var (R := rI) rfl rfl)) e_cI))⟩
    · rintro st57 _ S75 H76 s77 S78 H79 s80 ⟨qfound69, usfound70, rfl, w72, p73, eb74, rfound71⟩ g81 p82
      exact ⟨_, _, rfl, w72.go g81, p82, eb74.tr g81.s, All.mo g81.s rfound71⟩
    · rintro st57 _ S89 H90 s91 st57_ s2_ D_ ⟨qfound83, usfound84, rfl, w86, p87, eb88, rfound85⟩ hm92 nx93
      refine q_set (fun v => [some (.int p_n), some (.int p_k), some (.int p_p), some (.int st57.1), some (.int st57.2.1), some v, some (.int st57.2.2.2.1), some (.ref qfound83)]) (fun _ => rfl) w86 p87 (c_intB (e_ge (e_add (e_add (e_mod (e_var (R := rI) rfl rfl) (e_var (R := rI) rfl rfl)) (e_mod (e_var (R := rI) rfl rfl) (e_var (R := rI) rfl rfl))) (e_var (R := rI) rfl rfl)) (e_var (R := rI) rfl rfl))) hm92 ?_
      intro carry97 vcarry105 S98 H99 s100 w101 p102 g104 rcarry106 hm103
      cases (show vcarry105 = .int carry97 from rcarry106)
      have rfound85 := All.mo g104.s rfound85
      have eb88 := eb88.tr g104.s
      refine q_ifj (p := pt0) (fun st107 σ S' H' s' => ∃ (qfound_ : Addr) (usfound_ : List V), σ = [some (.int p_n), some (.int p_k), some (.int p_p), some (.int st57.1), some (.int st57.2.1), some (.int carry97), some (.int st57.2.2.2.1), some (.ref qfound_)] ∧ Wd pt0 S0 H0 S' H' [(qfound_, .lst usfound_)] ∧ PotAt pt0 s' S' H' ∧ Ex S98 S' ∧ All rI S' st107 usfound_) w101 p102 (t_Test (e_eq (e_var (R := rI) rfl rfl) e_cI)) hm103 ?_ ?_ ?_
      · intro S108 H109 s110 st107_ s2_ D_ w111 p112 g113 hm114 nx115
        have rfound85 := All.mo g113.s rfound85
        have eb88 := eb88.tr g113.s
        have eb116 := g113.s
        refine q_app (j := 0) w111 p112 rfl rfl rfound85 (e_var (R := rI) rfl rfl) hm114 ?_
        intro found117 vs118 S120 H121 s122 w123 p124 e126 rfound119 hm125
        have eb88 := eb88.tr e126
        have eb116 := eb116.tr e126
        cases run_of_pure hm125
        exact nx115 _ _ _ ⟨_, _, rfl, w123, p124, eb116, rfound119⟩
      · intro S127 H128 s129 st107_ s2_ D_ w130 p131 g132 hm133 nx134
        have rfound85 := All.mo g132.s rfound85
        have eb88 := eb88.tr g132.s
        have eb135 := g132.s
        cases run_of_pure hm133
        exact nx134 _ _ _ ⟨_, _, rfl, w130, p131, eb135, rfound85⟩
      · rintro st107 _ S142 H143 s144 ⟨qfound136, usfound137, rfl, w139, p140, eb141, rfound138⟩ hm145
        have eb88 := eb88.tr eb141
        refine par3_go ?_
        refine x_ev w139 p140 (e_fdiv (e_var (R := rI) rfl rfl) (e_var (R := rI) rfl rfl)) hm145 ?_
        intro one146 vone154 S147 H148 s149 w150 p151 g153 rone155 hm152
        cases (show vone154 = .int one146 from rone155)
        have rfound138 := All.mo g153.s rfound138
        have eb88 := eb88.tr g153.s
        refine x_ev w150 p151 (e_fdiv (e_var (R := rI) rfl rfl) (e_var (R := rI) rfl rfl)) hm152 ?_
        intro other156 vother164 S157 H158 s159 w160 p161 g163 rother165 hm162
        cases (show vother164 = .int other156 from rother165)
        have rfound138 := All.mo g163.s rfound138
        have eb88 := eb88.tr g163.s
        refine x_ev w160 p161 (e_add (e_var (R := rI) rfl rfl) e_cI) hm162 ?_
        intro place166 vplace174 S167 H168 s169 w170 p171 g173 rplace175 hm172
        cases (show vplace174 = .int place166 from rplace175)
        have rfound138 := All.mo g173.s rfound138
        have eb88 := eb88.tr g173.s
        refine par3_end [some (.int p_n), some (.int p_k), some (.int p_p), some (.int one146), some (.int other156), some (.int carry97), some (.int place166), some (.ref qfound136)] rfl ?_
        cases run_of_pure hm172
        exact (nx93 _ _ _ ⟨_, _, rfl, w170, p171, eb88, rfound138⟩).1
    · rintro st57 _ S182 H183 s184 ⟨qfound176, usfound177, rfl, w179, p180, eb181, rfound178⟩ hm185
      refine q_ret w179 p180 (c_tup (K := K) (w_own (A := (aAll rI)) (j := 0) w179 rfl rfl rfound178)) hm185 ?_
      intro r193 v194 S186 H187 s188 w189 p190 g192 rr195 hm191
      cases run_of_pure hm191
      exact fin _ ⟨S186, w189.g, p190, rr195⟩
end
abbrev t_times_in_choice : Stmt := top 17
theorem sc_times_in_choice : FnScope ["n", "k", "p"] ["n", "k", "p"] (defScope t_times_in_choice) := ⟨rfl, rfl, rfl, by decide +kernel, rfl, by decide +kernel, by decide +kernel⟩
@[irreducible] noncomputable def m_times_in_choice (p_n : Int) (p_k : Int) (p_p : Int) : Option Int :=
Mir.lft (m_carried_places p_n p_k p_p) >>= fun r11 => bnd (List.length r11 : Int) fun r8 => pure r8
noncomputable abbrev fm_times_in_choice : (Int × Int × Int) → Option Int := fun a => m_times_in_choice a.1 a.2.1 a.2.2
abbrev sp_times_in_choice (K : PySem.W.Frag) : Sp := spV F0 fm_times_in_choice (fun _ => (aCons rI (aCons rI (aOne rI)))) rI
section
variable {P : Program} {w : World} {K : PySem.W.Frag} {mg : Str → Option Value} {base : Heap}
theorem g_times_in_choice (T : Tx mg base) (D0 : Dk P w K mg base "carried_places" t_carried_places 1 ["n", "k", "p"] (sp_carried_places K)) {f : Addr} {fd : FuncData} (F : Fun K "times_in_choice" "times_in_choice" t_times_in_choice f fd) : FnG P w K mg base CX0 2 f fd ["n", "k", "p"] (sp_times_in_choice K) := by
  obtain ⟨f0, fd0, F0, m0, G0, b0⟩ := D0
  refine okG0 F sc_times_in_choice (fun vs H Q E h => ?_) (fun cdv A outer s0_ H0 vs Q E hr gd h => ?_)
  · obtain ⟨_, _, _, _, _, _, _, _, ⟨_, _, rfl, _, ⟨_, _, rfl, _, ⟨_, rfl, _⟩⟩⟩, _⟩ := h
    rfl
  · obtain ⟨_, a, S0, s0, r, s', e0, p0, ⟨_, _, rfl, rfl, ⟨_, _, rfl, rfl, ⟨_, rfl, rfl⟩⟩⟩, hm0, fin0⟩ := h
    obtain ⟨p_n, p_k, p_p⟩ := a
    have fin : ∀ v {H' : Hp}, (∃ S', Gm (pt0).M S0 H0 S' H' ∧ PotAt pt0 s' S' H' ∧ rI r v S') → Q v H' := fun v {H'} ⟨S', h1, h2, h3⟩ => fin0 v S' H' h1 h2 h3
    have w0 : Wd pt0 S0 H0 S0 H0 [] := Wd.start e0
    have hm0 : Mir.run (m_times_in_choice p_n p_k p_p) s0 = some (r, s') := hm0
    unfold m_times_in_choice at hm0
    have sc := sc_times_in_choice
    refine ⟨_, pss_cons (ps_ret (pe_callB (k_len K) (by rfl) T.n_len (by decide +kernel) (pa_cons (pe_cG G0 (hr.mono (by decide)) gd rfl m0 F0.kp b0 pass0 (pa_cons (pv 0) (pa_cons (pv 1) (pa_cons (pv 2) (pa_nil))))) pa_nil))) (pss_nil), ?_⟩
    refine q_ret w0 p0 (c_lenT (e_call (E := E0) (fm := fm_carried_places) (R := (rT K (aAll rI))) (a_cons (e_var (R := rI) rfl rfl) (a_cons (e_var (R := rI) rfl rfl) (a_one (e_var (R := rI) rfl rfl)))))) hm0 ?_
    intro r8 v9 S1 H2 s3 w4 p5 g7 rr10 hm6
    cases run_of_pure hm6
    exact fin _ ⟨S1, w4.g, p5, rr10⟩
end
abbrev t_undivided_choices : Stmt := top 18
theorem sc_undivided_choices : FnScope ["n", "p", "found", "figure"] ["n", "p"] (defScope t_undivided_choices) := ⟨rfl, rfl, rfl, by decide +kernel, rfl, by decide +kernel, by decide +kernel⟩
@[irreducible] noncomputable def m_undivided_choices (p_n : Int) (p_p : Int) : Option Int :=
bnd (1 : Int) fun found1 =>
Mir.lft (m_figures_told p_n p_p) >>= fun r80 => (lpS r80 (fun (x13 : Int) (st11 : Int) =>
Mir.lft (grd (Sm st11 ∧ Sm (x13 + (1 : Int)))) >>= fun _ => bnd (st11 * (x13 + (1 : Int))) fun found52 =>
pure found52) found1) >>= fun (st11 : Int) =>
bnd st11 fun r77 => pure r77
noncomputable abbrev fm_undivided_choices : (Int × Int) → Option Int := fun a => m_undivided_choices a.1 a.2
abbrev sp_undivided_choices (K : PySem.W.Frag) : Sp := spV F0 fm_undivided_choices (fun _ => (aCons rI (aOne rI))) rI
section
variable {P : Program} {w : World} {K : PySem.W.Frag} {mg : Str → Option Value} {base : Heap}
theorem g_undivided_choices (T : Tx mg base) (D0 : Dk P w K mg base "figures_told" t_figures_told 1 ["n", "p"] (sp_figures_told K)) {f : Addr} {fd : FuncData} (F : Fun K "undivided_choices" "undivided_choices" t_undivided_choices f fd) : FnG P w K mg base CX0 2 f fd ["n", "p"] (sp_undivided_choices K) := by
  obtain ⟨f0, fd0, F0, m0, G0, b0⟩ := D0
  refine okG0 F sc_undivided_choices (fun vs H Q E h => ?_) (fun cdv A outer s0_ H0 vs Q E hr gd h => ?_)
  · obtain ⟨_, _, _, _, _, _, _, _, ⟨_, _, rfl, _, ⟨_, rfl, _⟩⟩, _⟩ := h
    rfl
  · obtain ⟨_, a, S0, s0, r, s', e0, p0, ⟨_, _, rfl, rfl, ⟨_, rfl, rfl⟩⟩, hm0, fin0⟩ := h
    obtain ⟨p_n, p_p⟩ := a
    have fin : ∀ v {H' : Hp}, (∃ S', Gm (pt0).M S0 H0 S' H' ∧ PotAt pt0 s' S' H' ∧ rI r v S') → Q v H' := fun v {H'} ⟨S', h1, h2, h3⟩ => fin0 v S' H' h1 h2 h3
    have w0 : Wd pt0 S0 H0 S0 H0 [] := Wd.start e0
    have hm0 : Mir.run (m_undivided_choices p_n p_p) s0 = some (r, s') := hm0
    unfold m_undivided_choices at hm0
    have sc := sc_undivided_choices
    refine ⟨_, pss_cons (ps_set (i := 2) sc.nd rfl (by first | exact Or.inl rfl | exact Or.inr rfl) (pe_int)) (pss_cons (ps_for PassesOwn.never rfl (k_pit K (pe_cG G0 (hr.mono (by decide)) gd rfl m0 F0.kp b0 pass0 (pa_cons (pv 0) (pa_cons (pv 1) (pa_nil))))) (pg_name (i := 3) sc.nd rfl (by first | exact Or.inl rfl | exact Or.inr rfl)) (pss_cons (ps_set (i := 2) sc.nd rfl (by first | exact Or.inl rfl | exact Or.inr rfl) (pe_op op_mulX (pv 2) (pe_op op_add (pv 3) (pe_int)))) (pss_nil))) (pss_cons (ps_ret (pv 2)) (pss_nil))), ?_⟩
    refine q_set (fun v => [some (.int p_n), some (.int p_p), some v, none]) (fun _ => rfl) w0 p0 e_cI hm0 ?_
    intro found1 vfound9 S2 H3 s4 w5 p6 g8 rfound10 hm7
    cases (show vfound9 = .int found1 from rfound10)
    refine q_for (p := pt0) w5 p6 (i_T (e_call (E := E0) (fm := fm_figures_told) (R := (rT K (aAll rI))) (a_cons (e_var (R := rI) rfl rfl) (a_one (e_var (R := rI) rfl rfl))))) (g_nm (R := rI)) hm7 (fun Sb12 st11 σ S' H' s' => Ex Sb12 S' ∧ (∃ (xfigure_ : Option V), σ = [some (.int p_n), some (.int p_p), some (.int st11), xfigure_] ∧ Wd pt0 S0 H0 S' H' [] ∧ PotAt pt0 s' S' H' ∧ Ex S2 S')) ?_ ?_ ?_ ?_ ?_
    · intro S14 H15 s16 w17 p18 g19
      exact ⟨Ex.rf, ⟨_, rfl, w17, p18, g19.s⟩⟩
    · rintro Sb12 st11 _ S24 H25 s26 ⟨ex27, ⟨xfigure20, rfl, w21, p22, eb23⟩⟩
      exact ⟨ex27, w21.i, p22, ownOk0⟩
    · rintro Sb12 st11 _ S32 H33 s34 S35 H36 ⟨ex38, ⟨xfigure28, rfl, w29, p30, eb31⟩⟩ g37
      exact ⟨ex38.tr g37.s, _, rfl, w29.go (Gm.up g37), PotAt.go p30 g37, eb31.tr g37.s⟩
    · rintro Sb12 x13 st11 _ σ51 S43 H44 s45 st11_ s2_ D_ ⟨ex50, ⟨xfigure39, rfl, w40, p41, eb42⟩⟩ hp hm46 nx47
      obtain ⟨_, rfl, rfl⟩ := hp
      refine q_set (fun v => [some (.int p_n), some (.int p_p), some v, some (.int x13)]) (fun _ => rfl) w40 p41 (e_mul (e_var (R := rI) rfl rfl) (e_add (e_var (R := rI) rfl rfl) e_cI)) hm46 ?_
      intro found52 vfound60 S53 H54 s55 w56 p57 g59 rfound61 hm58
      cases (show vfound60 = .int found52 from rfound61)
      have eb42 := eb42.tr g59.s
      have ex50 := ex50.tr g59.s
      cases run_of_pure hm58
      exact (nx47 _ _ _ ⟨ex50, ⟨_, rfl, w56, p57, eb42⟩⟩).1
    · rintro Sb12 st11 _ S66 H67 s68 ⟨_, ⟨xfigure62, rfl, w63, p64, eb65⟩⟩ hm69
      refine q_ret w63 p64 (e_var (R := rI) rfl rfl) hm69 ?_
      intro r77 v78 S70 H71 s72 w73 p74 g76 rr79 hm75
      cases run_of_pure hm75
      exact fin _ ⟨S70, w73.g, p74, rr79⟩
end
abbrev t_choose : Stmt := top 20
theorem sc_choose : FnScope ["n", "k", "found", "step"] ["n", "k"] (defScope t_choose) := ⟨rfl, rfl, rfl, by decide +kernel, rfl, by decide +kernel, by decide +kernel⟩
@[irreducible] noncomputable def m_choose (p_n : Int) (p_k : Int) : Option Int :=
if (decide (p_n < p_k)) = true then
(bnd (0 : Int) fun r15 => pure r15)
else
(bnd (1 : Int) fun found25 =>
Mir.lft (grd (RgB p_k)) >>= fun _ => (lpS (rng 0 p_k) (fun (x37 : Int) (st35 : Int) =>
Mir.lft (grd (Sm st35 ∧ Sm (p_n - x37))) >>= fun _ => Mir.lft (grd (Dv (x37 + (1 : Int)))) >>= fun _ => bnd ((st35 * (p_n - x37)) / (x37 + (1 : Int))) fun found76 =>
pure found76) found25) >>= fun (st35 : Int) =>
bnd st35 fun r101 => pure r101)
noncomputable abbrev fm_choose : (Int × Int) → Option Int := fun a => m_choose a.1 a.2
abbrev sp_choose (K : PySem.W.Frag) : Sp := spV F0 fm_choose (fun _ => (aCons rI (aOne rI))) rI
section
variable {P : Program} {w : World} {K : PySem.W.Frag} {mg : Str → Option Value} {base : Heap}
theorem g_choose (T : Tx mg base)  {f : Addr} {fd : FuncData} (F : Fun K "choose" "choose" t_choose f fd) : FnG P w K mg base CX0 1 f fd ["n", "k"] (sp_choose K) := by
  refine okG0 F sc_choose (fun vs H Q E h => ?_) (fun cdv A outer s0_ H0 vs Q E hr gd h => ?_)
  · obtain ⟨_, _, _, _, _, _, _, _, ⟨_, _, rfl, _, ⟨_, rfl, _⟩⟩, _⟩ := h
    rfl
  · obtain ⟨_, a, S0, s0, r, s', e0, p0, ⟨_, _, rfl, rfl, ⟨_, rfl, rfl⟩⟩, hm0, fin0⟩ := h
    obtain ⟨p_n, p_k⟩ := a
    have fin : ∀ v {H' : Hp}, (∃ S', Gm (pt0).M S0 H0 S' H' ∧ PotAt pt0 s' S' H' ∧ rI r v S') → Q v H' := fun v {H'} ⟨S', h1, h2, h3⟩ => fin0 v S' H' h1 h2 h3
    have w0 : Wd pt0 S0 H0 S0 H0 [] := Wd.start e0
    have hm0 : Mir.run (m_choose p_n p_k) s0 = some (r, s') := hm0
    unfold m_choose at hm0
    have sc := sc_choose
    refine ⟨_, pss_cons (ps_if (pt_cmpR op_gt (pv 1) (pv 0) (nomark _)) (pss_cons (ps_ret (pe_int)) (pss_nil)) (pss_nil)) (pss_cons (ps_set (i := 2) sc.nd rfl (by first | exact Or.inl rfl | exact Or.inr rfl) (pe_int)) (pss_cons (ps_for PassesOwn.never rfl (pi_range1 rfl T.n_range (pa_cons (pv 1) pa_nil)) (pg_name (i := 3) sc.nd rfl (by first | exact Or.inl rfl | exact Or.inr rfl)) (pss_cons (ps_set (i := 2) sc.nd rfl (by first | exact Or.inl rfl | exact Or.inr rfl) (pe_op op_fdivW (pe_op op_mulX (pv 2) (pe_op op_sub (pv 0) (pv 3))) (pe_op op_add (pv 3) (pe_int)))) (pss_nil))) (pss_cons (ps_ret (pv 2)) (pss_nil)))), ?_⟩
    refine q_if w0 p0 (t_Test (e_gt (e_var (R := rI) rfl rfl) (e_var (R := rI) rfl rfl))) hm0 ?_ ?_
    · intro S1 H2 s3 w4 p5 g6 hm7
      refine q_ret w4 p5 e_cI hm7 ?_
      intro r15 v16 S8 H9 s10 w11 p12 g14 rr17 hm13
      cases run_of_pure hm13
      exact fin _ ⟨S8, w11.g, p12, rr17⟩
    · intro S18 H19 s20 w21 p22 g23 hm24
      refine nx_done ?_
      refine q_set (fun v => [some (.int p_n), some (.int p_k), some v, none]) (fun _ => rfl) w21 p22 e_cI hm24 ?_
      intro found25 vfound33 S26 H27 s28 w29 p30 g32 rfound34 hm31
      cases (show vfound33 = .int found25 from rfound34)
      refine q_for (p := pt0) w29 p30 (i_R1 (e_var (R := rI) rfl rfl)) (g_nm (R := rI)) hm31 (fun Sb36 st35 σ S' H' s' => Ex Sb36 S' ∧ (∃ (xstep_ : Option V), σ = [some (.int p_n), some (.int p_k), some (.int st35), xstep_] ∧ Wd pt0 S0 H0 S' H' [] ∧ PotAt pt0 s' S' H' ∧ Ex S26 S')) ?_ ?_ ?_ ?_ ?_
      · intro S38 H39 s40 w41 p42 g43
        exact ⟨Ex.rf, ⟨_, rfl, w41, p42, g43.s⟩⟩
      · rintro Sb36 st35 _ S48 H49 s50 ⟨ex51, ⟨xstep44, rfl, w45, p46, eb47⟩⟩
        exact ⟨ex51, w45.i, p46, ownOk0⟩
      · rintro Sb36 st35 _ S56 H57 s58 S59 H60 ⟨ex62, ⟨xstep52, rfl, w53, p54, eb55⟩⟩ g61
        exact ⟨ex62.tr g61.s, _, rfl, w53.go (Gm.up g61), PotAt.go p54 g61, eb55.tr g61.s⟩
      · rintro Sb36 x37 st35 _ σ75 S67 H68 s69 st35_ s2_ D_ ⟨ex74, ⟨xstep63, rfl, w64, p65, eb66⟩⟩ hp hm70 nx71
        obtain ⟨_, rfl, rfl⟩ := hp
        refine q_set (fun v => [some (.int p_n), some (.int p_k), some v, some (.int x37)]) (fun _ => rfl) w64 p65 (e_fdiv (e_mul (e_var (R := rI) rfl rfl) (e_sub (e_var (R := rI) rfl rfl) (e_var (R := rI) rfl rfl))) (e_add (e_var (R := rI) rfl rfl) e_cI)) hm70 ?_
        intro found76 vfound84 S77 H78 s79 w80 p81 g83 rfound85 hm82
        cases (show vfound84 = .int found76 from rfound85)
        have eb66 := eb66.tr g83.s
        have ex74 := ex74.tr g83.s
        cases run_of_pure hm82
        exact (nx71 _ _ _ ⟨ex74, ⟨_, rfl, w80, p81, eb66⟩⟩).1
      · rintro Sb36 st35 _ S90 H91 s92 ⟨_, ⟨xstep86, rfl, w87, p88, eb89⟩⟩ hm93
        refine q_ret w87 p88 (e_var (R := rI) rfl rfl) hm93 ?_
        intro r101 v102 S94 H95 s96 w97 p98 g100 rr103 hm99
        cases run_of_pure hm99
        exact fin _ ⟨S94, w97.g, p98, rr103⟩
end
abbrev t_choice_rest : Stmt := top 21
theorem sc_choice_rest : FnScope ["n", "k", "p", "found"] ["n", "k", "p"] (defScope t_choice_rest) := ⟨rfl, rfl, rfl, by decide +kernel, rfl, by decide +kernel, by decide +kernel⟩
@[irreducible] noncomputable def m_choice_rest (p_n : Int) (p_k : Int) (p_p : Int) : Option Int :=
bnd (1 : Int) fun found1 =>
(whS many (fun (st11 : Int × Int × Int) k => k ((decide ((0 : Int) < st11.1)) && (decide ((0 : Int) < st11.2.2)))) (fun (st11 : Int × Int × Int) =>
Mir.lft (grd (0 < p_p)) >>= fun _ => Mir.lft (grd (0 < p_p)) >>= fun _ => Mir.lft (m_choose (st11.1 % p_p) (st11.2.1 % p_p)) >>= fun r72 => Mir.lft (grd (Sm st11.2.2 ∧ Sm r72)) >>= fun _ => Mir.lft (grd (0 < p_p)) >>= fun _ => bnd ((st11.2.2 * r72) % p_p) fun found42 =>
Mir.lft (grd (Dv p_p)) >>= fun _ => bnd (st11.1 / p_p) fun n52 =>
Mir.lft (grd (Dv p_p)) >>= fun _ => bnd (st11.2.1 / p_p) fun k62 =>
pure (n52, k62, found42)) (p_n, p_k, found1)) >>= fun (st11 : Int × Int × Int) =>
bnd st11.2.2 fun r87 => pure r87
noncomputable abbrev fm_choice_rest : (Int × Int × Int) → Option Int := fun a => m_choice_rest a.1 a.2.1 a.2.2
abbrev sp_choice_rest (K : PySem.W.Frag) : Sp := spV F0 fm_choice_rest (fun _ => (aCons rI (aCons rI (aOne rI)))) rI
section
variable {P : Program} {w : World} {K : PySem.W.Frag} {mg : Str → Option Value} {base : Heap}
theorem g_choice_rest (T : Tx mg base) (D0 : Dk P w K mg base "choose" t_choose 1 ["n", "k"] (sp_choose K)) {f : Addr} {fd : FuncData} (F : Fun K "choice_rest" "choice_rest" t_choice_rest f fd) : FnG P w K mg base CX0 2 f fd ["n", "k", "p"] (sp_choice_rest K) := by
  obtain ⟨f0, fd0, F0, m0, G0, b0⟩ := D0
  refine okG0 F sc_choice_rest (fun vs H Q E h => ?_) (fun cdv A outer s0_ H0 vs Q E hr gd h => ?_)
  · obtain ⟨_, _, _, _, _, _, _, _, ⟨_, _, rfl, _, ⟨_, _, rfl, _, ⟨_, rfl, _⟩⟩⟩, _⟩ := h
    rfl
  · obtain ⟨_, a, S0, s0, r, s', e0, p0, ⟨_, _, rfl, rfl, ⟨_, _, rfl, rfl, ⟨_, rfl, rfl⟩⟩⟩, hm0, fin0⟩ := h
    obtain ⟨p_n, p_k, p_p⟩ := a
    have fin : ∀ v {H' : Hp}, (∃ S', Gm (pt0).M S0 H0 S' H' ∧ PotAt pt0 s' S' H' ∧ rI r v S') → Q v H' := fun v {H'} ⟨S', h1, h2, h3⟩ => fin0 v S' H' h1 h2 h3
    have w0 : Wd pt0 S0 H0 S0 H0 [] := Wd.start e0
    have hm0 : Mir.run (m_choice_rest p_n p_k p_p) s0 = some (r, s') := hm0
    unfold m_choice_rest at hm0
    have sc := sc_choice_rest
    refine ⟨_, pss_cons (ps_set (i := 3) sc.nd rfl (by first | exact Or.inl rfl | exact Or.inr rfl) (pe_int)) (pss_cons (ps_while PassesOwn.never (PW.pt (pw_and (pt_cmpR op_gt (pv 0) (pe_int) (nomark _)) (pw_and1 (pt_cmpR op_gt (pv 3) (pe_int) (nomark _))))) (pss_cons (ps_set (i := 3) sc.nd rfl (by first | exact Or.inl rfl | exact Or.inr rfl) (pe_op op_mod (pe_op op_mulX (pv 3) (pe_cG G0 (hr.mono (by decide)) gd rfl m0 F0.kp b0 pass0 (pa_cons (pe_op op_mod (pv 0) (pv 2)) (pa_cons (pe_op op_mod (pv 1) (pv 2)) (pa_nil))))) (pv 2))) (pss_cons (ps_par (i := 0) (j := 1) rfl sc.nd rfl rfl (by decide) rfl rfl (pa_cons (pe_op op_fdivW (pv 0) (pv 2)) (pa_cons (pe_op op_fdivW (pv 1) (pv 2)) (pa_nil))) (by rfl)) (pss_nil)))) (pss_cons (ps_ret (pv 3)) (pss_nil))), ?_⟩
    refine q_set (fun v => [some (.int p_n), some (.int p_k), some (.int p_p), some v]) (fun _ => rfl) w0 p0 e_cI hm0 ?_
    intro found1 vfound9 S2 H3 s4 w5 p6 g8 rfound10 hm7
    cases (show vfound9 = .int found1 from rfound10)
    refine q_wh (p := pt0) (fun st11 σ S' H' s' => σ = [some (.int st11.1), some (.int st11.2.1), some (.int p_p), some (.int st11.2.2)] ∧ Wd pt0 S0 H0 S' H' [] ∧ PotAt pt0 s' S' H' ∧ Ex S2 S') ⟨rfl, w5, p6, Ex.rf⟩ hm7 ?_ ?_ ?_ ?_
    · rintro st11 _ S17 H18 s19 ⟨rfl, w14, p15, eb16⟩
      exact ⟨p15, w14.i, (t_andT (t_Test (e_gt (e_var (R := rI) rfl rfl) e_cI)) (t_Test (e_gt (e_var (R := rI) rfl rfl) e_cI)))⟩
    · rintro st11 _ S23 H24 s25 S26 H27 s28 ⟨rfl, w20, p21, eb22⟩ g29 p30
      exact ⟨rfl, w20.go g29, p30, eb22.tr g29.s⟩
    · rintro st11 _ S34 H35 s36 st11_ s2_ D_ ⟨rfl, w31, p32, eb33⟩ hm37 nx38
      refine q_set (fun v => [some (.int st11.1), some (.int st11.2.1), some (.int p_p), some v]) (fun _ => rfl) w31 p32 (e_mod (e_mul (e_var (R := rI) rfl rfl) (e_call (E := E0) (fm := fm_choose) (R := rI) (a_cons (e_mod (e_var (R := rI) rfl rfl) (e_var (R := rI) rfl rfl)) (a_one (e_mod (e_var (R := rI) rfl rfl) (e_var (R := rI) rfl rfl)))))) (e_var (R := rI) rfl rfl)) hm37 ?_
      intro found42 vfound50 S43 H44 s45 w46 p47 g49 rfound51 hm48
      cases (show vfound50 = .int found42 from rfound51)
      have eb33 := eb33.tr g49.s
      refine par_go ?_
      refine x_ev w46 p47 (e_fdiv (e_var (R := rI) rfl rfl) (e_var (R := rI) rfl rfl)) hm48 ?_
      intro n52 vn60 S53 H54 s55 w56 p57 g59 rn61 hm58
      cases (show vn60 = .int n52 from rn61)
      have eb33 := eb33.tr g59.s
      refine x_ev w56 p57 (e_fdiv (e_var (R := rI) rfl rfl) (e_var (R := rI) rfl rfl)) hm58 ?_
      intro k62 vk70 S63 H64 s65 w66 p67 g69 rk71 hm68
      cases (show vk70 = .int k62 from rk71)
      have eb33 := eb33.tr g69.s
      refine par_end [some (.int n52), some (.int k62), some (.int p_p), some (.int found42)] rfl ?_
      cases run_of_pure hm68
      exact (nx38 _ _ _ ⟨rfl, w66, p67, eb33⟩).1
    · rintro st11 _ S76 H77 s78 ⟨rfl, w73, p74, eb75⟩ hm79
      refine q_ret w73 p74 (e_var (R := rI) rfl rfl) hm79 ?_
      intro r87 v88 S80 H81 s82 w83 p84 g86 rr89 hm85
      cases run_of_pure hm85
      exact fin _ ⟨S80, w83.g, p84, rr89⟩
end
abbrev t__law_power : Stmt := top 26
theorem sc__law_power : FnScope ["a", "k", "m", "found", "own"] ["a", "k", "m"] (defScope t__law_power) := ⟨rfl, rfl, rfl, by decide +kernel, rfl, by decide +kernel, by decide +kernel⟩
@[irreducible] noncomputable def m__law_power (p_a : Int) (p_k : Int) (p_m : Int) : Option Int :=
Mir.lft (grd (0 < p_m)) >>= fun _ => bnd ((1 : Int) % p_m) fun found1 =>
Mir.lft (grd (0 < p_m)) >>= fun _ => bnd (p_a % p_m) fun own11 =>
(whS many (fun (st21 : Int × Int × Int) k => k (decide ((0 : Int) < st21.1))) (fun (st21 : Int × Int × Int) =>
Mir.lft (grd (0 < (2 : Int))) >>= fun _ => ((if (decide ((st21.1 % (2 : Int)) = (1 : Int))) = true then
(Mir.lft (grd (Sm st21.2.1 ∧ Sm st21.2.2)) >>= fun _ => Mir.lft (grd (0 < p_m)) >>= fun _ => bnd ((st21.2.1 * st21.2.2) % p_m) fun found62 =>
pure found62)
else
(pure st21.2.1)) >>= fun (st52 : Int) =>
Mir.lft (grd (Sm st21.2.2 ∧ Sm st21.2.2)) >>= fun _ => Mir.lft (grd (0 < p_m)) >>= fun _ => bnd ((st21.2.2 * st21.2.2) % p_m) fun own88 =>
Mir.lft (grd (Dv (2 : Int))) >>= fun _ => bnd (st21.1 / (2 : Int)) fun k98 =>
pure (k98, st52, own88))) (p_k, found1, own11)) >>= fun (st21 : Int × Int × Int) =>
bnd st21.2.1 fun r122 => pure r122
noncomputable abbrev fm__law_power : (Int × Int × Int) → Option Int := fun a => m__law_power a.1 a.2.1 a.2.2
abbrev sp__law_power (K : PySem.W.Frag) : Sp := spV F0 fm__law_power (fun _ => (aCons rI (aCons rI (aOne rI)))) rI
section
variable {P : Program} {w : World} {K : PySem.W.Frag} {mg : Str → Option Value} {base : Heap}
theorem g__law_power (T : Tx mg base)  {f : Addr} {fd : FuncData} (F : Fun K "_law_power" "_law_power" t__law_power f fd) : FnG P w K mg base CX0 1 f fd ["a", "k", "m"] (sp__law_power K) := by
  refine okG0 F sc__law_power (fun vs H Q E h => ?_) (fun cdv A outer s0_ H0 vs Q E hr gd h => ?_)
  · obtain ⟨_, _, _, _, _, _, _, _, ⟨_, _, rfl, _, ⟨_, _, rfl, _, ⟨_, rfl, _⟩⟩⟩, _⟩ := h
    rfl
  · obtain ⟨_, a, S0, s0, r, s', e0, p0, ⟨_, _, rfl, rfl, ⟨_, _, rfl, rfl, ⟨_, rfl, rfl⟩⟩⟩, hm0, fin0⟩ := h
    obtain ⟨p_a, p_k, p_m⟩ := a
    have fin : ∀ v {H' : Hp}, (∃ S', Gm (pt0).M S0 H0 S' H' ∧ PotAt pt0 s' S' H' ∧ rI r v S') → Q v H' := fun v {H'} ⟨S', h1, h2, h3⟩ => fin0 v S' H' h1 h2 h3
    have w0 : Wd pt0 S0 H0 S0 H0 [] := Wd.start e0
    have hm0 : Mir.run (m__law_power p_a p_k p_m) s0 = some (r, s') := hm0
    unfold m__law_power at hm0
    have sc := sc__law_power
    refine ⟨_, pss_cons (ps_par (i := 3) (j := 4) rfl sc.nd rfl rfl (by decide) rfl rfl (pa_cons (pe_op op_mod (pe_int) (pv 2)) (pa_cons (pe_op op_mod (pe_callTy call_int1 (by rfl) T.n_int (by decide +kernel) (pa_cons (pv 0) pa_nil)) (pv 2)) (pa_nil))) (by rfl)) (pss_cons (ps_while PassesOwn.never (pt_cmpR op_gt (pv 1) (pe_int) (nomark _)) (pss_cons (ps_if (pt_cmpR op_eq (pe_op op_mod (pv 1) (pe_int)) (pe_int) (nomark _)) (pss_cons (ps_set (i := 3) sc.nd rfl (by first | exact Or.inl rfl | exact Or.inr rfl) (pe_op op_mod (pe_op op_mulX (pv 3) (pv 4)) (pv 2))) (pss_nil)) (pss_nil)) (pss_cons (ps_par (i := 4) (j := 1) rfl sc.nd rfl rfl (by decide) rfl rfl (pa_cons (pe_op op_mod (pe_op op_mulX (pv 4) (pv 4)) (pv 2)) (pa_cons (pe_op op_fdivW (pv 1) (pe_int)) (pa_nil))) (by rfl)) (pss_nil)))) (pss_cons (ps_ret (pv 3)) (pss_nil))), ?_⟩
    refine par_go ?_
    refine x_ev w0 p0 (e_mod e_cI (e_var (R := rI) rfl rfl)) hm0 ?_
    intro found1 vfound9 S2 H3 s4 w5 p6 g8 rfound10 hm7
    cases (show vfound9 = .int found1 from rfound10)
    refine x_ev w5 p6 (e_mod (c_int (e_var (R := rI) rfl rfl)) (e_var (R := rI) rfl rfl)) hm7 ?_
    intro own11 vown19 S12 H13 s14 w15 p16 g18 rown20 hm17
    cases (show vown19 = .int own11 from rown20)
    refine par_end [some (.int p_a), some (.int p_k), some (.int p_m), some (.int found1), some (.int own11)] rfl ?_
    refine q_wh (p := pt0) (fun st21 σ S' H' s' => σ = [some (.int p_a), some (.int st21.1), some (.int p_m), some (.int st21.2.1), some (.int st21.2.2)] ∧ Wd pt0 S0 H0 S' H' [] ∧ PotAt pt0 s' S' H' ∧ Ex S12 S') ⟨rfl, w15, p16, Ex.rf⟩ hm17 ?_ ?_ ?_ ?_
    · rintro st21 _ S27 H28 s29 ⟨rfl, w24, p25, eb26⟩
      exact ⟨p25, w24.i, (t_Test (e_gt (e_var (R := rI) rfl rfl) e_cI))⟩
    · rintro st21 _ S33 H34 s35 S36 H37 s38 ⟨rfl, w30, p31, eb32⟩ g39 p40
      exact ⟨rfl, w30.go g39, p40, eb32.tr g39.s⟩
    · rintro st21 _ S44 H45 s46 st21_ s2_ D_ ⟨rfl, w41, p42, eb43⟩ hm47 nx48
      refine q_ifj (p := pt0) (fun st52 σ S' H' s' => σ = [some (.int p_a), some (.int st21.1), some (.int p_m), some (.int st52), some (.int st21.2.2)] ∧ Wd pt0 S0 H0 S' H' [] ∧ PotAt pt0 s' S' H' ∧ Ex S44 S') w41 p42 (t_Test (e_eq (e_mod (e_var (R := rI) rfl rfl) e_cI) e_cI)) hm47 ?_ ?_ ?_
      · intro S53 H54 s55 st52_ s2_ D_ w56 p57 g58 hm59 nx60
        have eb43 := eb43.tr g58.s
        have eb61 := g58.s
        refine q_set (fun v => [some (.int p_a), some (.int st21.1), some (.int p_m), some v, some (.int st21.2.2)]) (fun _ => rfl) w56 p57 (e_mod (e_mul (e_var (R := rI) rfl rfl) (e_var (R := rI) rfl rfl)) (e_var (R := rI) rfl rfl)) hm59 ?_
        intro found62 vfound70 S63 H64 s65 w66 p67 g69 rfound71 hm68
        cases (show vfound70 = .int found62 from rfound71)
        have eb43 := eb43.tr g69.s
        have eb61 := eb61.tr g69.s
        cases run_of_pure hm68
        exact nx60 _ _ _ ⟨rfl, w66, p67, eb61⟩
      · intro S72 H73 s74 st52_ s2_ D_ w75 p76 g77 hm78 nx79
        have eb43 := eb43.tr g77.s
        have eb80 := g77.s
        cases run_of_pure hm78
        exact nx79 _ _ _ ⟨rfl, w75, p76, eb80⟩
      · rintro st52 _ S84 H85 s86 ⟨rfl, w81, p82, eb83⟩ hm87
        have eb43 := eb43.tr eb83
        refine par_go ?_
        refine x_ev w81 p82 (e_mod (e_mul (e_var (R := rI) rfl rfl) (e_var (R := rI) rfl rfl)) (e_var (R := rI) rfl rfl)) hm87 ?_
        intro own88 vown96 S89 H90 s91 w92 p93 g95 rown97 hm94
        cases (show vown96 = .int own88 from rown97)
        have eb43 := eb43.tr g95.s
        refine x_ev w92 p93 (e_fdiv (e_var (R := rI) rfl rfl) e_cI) hm94 ?_
        intro k98 vk106 S99 H100 s101 w102 p103 g105 rk107 hm104
        cases (show vk106 = .int k98 from rk107)
        have eb43 := eb43.tr g105.s
        refine par_end [some (.int p_a), some (.int k98), some (.int p_m), some (.int st52), some (.int own88)] rfl ?_
        cases run_of_pure hm104
        exact (nx48 _ _ _ ⟨rfl, w102, p103, eb43⟩).1
    · rintro st21 _ S111 H112 s113 ⟨rfl, w108, p109, eb110⟩ hm114
      refine q_ret w108 p109 (e_var (R := rI) rfl rfl) hm114 ?_
      intro r122 v123 S115 H116 s117 w118 p119 g121 rr124 hm120
      cases run_of_pure hm120
      exact fin _ ⟨S115, w118.g, p119, rr124⟩
end
abbrev t__law_raised : Stmt := top 27
theorem sc__law_raised : FnScope ["a", "k", "found", "turn"] ["a", "k"] (defScope t__law_raised) := ⟨rfl, rfl, rfl, by decide +kernel, rfl, by decide +kernel, by decide +kernel⟩
@[irreducible] noncomputable def m__law_raised (p_a : Int) (p_k : Int) : Option Int :=
bnd (1 : Int) fun found1 =>
Mir.lft (grd (RgB p_k)) >>= fun _ => (lpS (rng 0 p_k) (fun (x13 : Int) (st11 : Int) =>
Mir.lft (grd (Sm st11 ∧ Sm p_a)) >>= fun _ => bnd (st11 * p_a) fun found52 =>
pure found52) found1) >>= fun (st11 : Int) =>
bnd st11 fun r77 => pure r77
noncomputable abbrev fm__law_raised : (Int × Int) → Option Int := fun a => m__law_raised a.1 a.2
abbrev sp__law_raised (K : PySem.W.Frag) : Sp := spV F0 fm__law_raised (fun _ => (aCons rI (aOne rI))) rI
section
variable {P : Program} {w : World} {K : PySem.W.Frag} {mg : Str → Option Value} {base : Heap}
theorem g__law_raised (T : Tx mg base)  {f : Addr} {fd : FuncData} (F : Fun K "_law_raised" "_law_raised" t__law_raised f fd) : FnG P w K mg base CX0 1 f fd ["a", "k"] (sp__law_raised K) := by
  refine okG0 F sc__law_raised (fun vs H Q E h => ?_) (fun cdv A outer s0_ H0 vs Q E hr gd h => ?_)
  · obtain ⟨_, _, _, _, _, _, _, _, ⟨_, _, rfl, _, ⟨_, rfl, _⟩⟩, _⟩ := h
    rfl
  · obtain ⟨_, a, S0, s0, r, s', e0, p0, ⟨_, _, rfl, rfl, ⟨_, rfl, rfl⟩⟩, hm0, fin0⟩ := h
    obtain ⟨p_a, p_k⟩ := a
    have fin : ∀ v {H' : Hp}, (∃ S', Gm (pt0).M S0 H0 S' H' ∧ PotAt pt0 s' S' H' ∧ rI r v S') → Q v H' := fun v {H'} ⟨S', h1, h2, h3⟩ => fin0 v S' H' h1 h2 h3
    have w0 : Wd pt0 S0 H0 S0 H0 [] := Wd.start e0
    have hm0 : Mir.run (m__law_raised p_a p_k) s0 = some (r, s') := hm0
    unfold m__law_raised at hm0
    have sc := sc__law_raised
    refine ⟨_, pss_cons (ps_set (i := 2) sc.nd rfl (by first | exact Or.inl rfl | exact Or.inr rfl) (pe_int)) (pss_cons (ps_for PassesOwn.never rfl (pi_range1 rfl T.n_range (pa_cons (pv 1) pa_nil)) (pg_name (i := 3) sc.nd rfl (by first | exact Or.inl rfl | exact Or.inr rfl)) (pss_cons (ps_set (i := 2) sc.nd rfl (by first | exact Or.inl rfl | exact Or.inr rfl) (pe_op op_mulX (pv 2) (pv 0))) (pss_nil))) (pss_cons (ps_ret (pv 2)) (pss_nil))), ?_⟩
    refine q_set (fun v => [some (.int p_a), some (.int p_k), some v, none]) (fun _ => rfl) w0 p0 e_cI hm0 ?_
    intro found1 vfound9 S2 H3 s4 w5 p6 g8 rfound10 hm7
    cases (show vfound9 = .int found1 from rfound10)
    refine q_for (p := pt0) w5 p6 (i_R1 (e_var (R := rI) rfl rfl)) (g_nm (R := rI)) hm7 (fun Sb12 st11 σ S' H' s' => Ex Sb12 S' ∧ (∃ (xturn_ : Option V), σ = [some (.int p_a), some (.int p_k), some (.int st11), xturn_] ∧ Wd pt0 S0 H0 S' H' [] ∧ PotAt pt0 s' S' H' ∧ Ex S2 S')) ?_ ?_ ?_ ?_ ?_
    · intro S14 H15 s16 w17 p18 g19
      exact ⟨Ex.rf, ⟨_, rfl, w17, p18, g19.s⟩⟩
    · rintro Sb12 st11 _ S24 H25 s26 ⟨ex27, ⟨xturn20, rfl, w21, p22, eb23⟩⟩
      exact ⟨ex27, w21.i, p22, ownOk0⟩
    · rintro Sb12 st11 _ S32 H33 s34 S35 H36 ⟨ex38, ⟨xturn28, rfl, w29, p30, eb31⟩⟩ g37
      exact ⟨ex38.tr g37.s, _, rfl, w29.go (Gm.up g37), PotAt.go p30 g37, eb31.tr g37.s⟩
    · rintro Sb12 x13 st11 _ σ51 S43 H44 s45 st11_ s2_ D_ ⟨ex50, ⟨xturn39, rfl, w40, p41, eb42⟩⟩ hp hm46 nx47
      obtain ⟨_, rfl, rfl⟩ := hp
      refine q_set (fun v => [some (.int p_a), some (.int p_k), some v, some (.int x13)]) (fun _ => rfl) w40 p41 (e_mul (e_var (R := rI) rfl rfl) (e_var (R := rI) rfl rfl)) hm46 ?_
      intro found52 vfound60 S53 H54 s55 w56 p57 g59 rfound61 hm58
      cases (show vfound60 = .int found52 from rfound61)
      have eb42 := eb42.tr g59.s
      have ex50 := ex50.tr g59.s
      cases run_of_pure hm58
      exact (nx47 _ _ _ ⟨ex50, ⟨_, rfl, w56, p57, eb42⟩⟩).1
    · rintro Sb12 st11 _ S66 H67 s68 ⟨_, ⟨xturn62, rfl, w63, p64, eb65⟩⟩ hm69
      refine q_ret w63 p64 (e_var (R := rI) rfl rfl) hm69 ?_
      intro r77 v78 S70 H71 s72 w73 p74 g76 rr79 hm75
      cases run_of_pure hm75
      exact fin _ ⟨S70, w73.g, p74, rr79⟩
end
abbrev t__law_is_prime : Stmt := top 28
theorem sc__law_is_prime : FnScope ["number", "p"] ["number"] (defScope t__law_is_prime) := ⟨rfl, rfl, rfl, by decide +kernel, rfl, by decide +kernel, by decide +kernel⟩
@[irreducible] noncomputable def m__law_is_prime (p_number : Int) : Option Bool :=
if (decide (p_number < (4 : Int))) = true then
(bnd (decide ((1 : Int) < p_number)) fun r15 => pure r15)
else
(bnd (2 : Int) fun p25 =>
(whS many (fun (st35 : Int) k => Mir.lft (grd (Sm st35 ∧ Sm st35)) >>= fun _ => (if (decide ((st35 * st35) ≤ p_number)) = true then Mir.lft (grd (0 < st35)) >>= fun _ => pure (decide ((0 : Int) < (p_number % st35))) else pure false) >>= fun b96 => k b96) (fun (st35 : Int) =>
bnd (st35 + (1 : Int)) fun p66 =>
pure p66) p25) >>= fun (st35 : Int) =>
Mir.lft (grd (Sm st35 ∧ Sm st35)) >>= fun _ => bnd (decide (p_number < (st35 * st35))) fun r90 => pure r90)
noncomputable abbrev fm__law_is_prime : (Int) → Option Bool := fun a => m__law_is_prime a
abbrev sp__law_is_prime (K : PySem.W.Frag) : Sp := spV F0 fm__law_is_prime (fun _ => (aOne rI)) rB
section
variable {P : Program} {w : World} {K : PySem.W.Frag} {mg : Str → Option Value} {base : Heap}
theorem g__law_is_prime (T : Tx mg base)  {f : Addr} {fd : FuncData} (F : Fun K "_law_is_prime" "_law_is_prime" t__law_is_prime f fd) : FnG P w K mg base CX0 1 f fd ["number"] (sp__law_is_prime K) := by
  refine okG0 F sc__law_is_prime (fun vs H Q E h => ?_) (fun cdv A outer s0_ H0 vs Q E hr gd h => ?_)
  · obtain ⟨_, _, _, _, _, _, _, _, ⟨_, rfl, _⟩, _⟩ := h
    rfl
  · obtain ⟨_, p_number, S0, s0, r, s', e0, p0, ⟨_, rfl, rfl⟩, hm0, fin0⟩ := h
    have fin : ∀ v {H' : Hp}, (∃ S', Gm (pt0).M S0 H0 S' H' ∧ PotAt pt0 s' S' H' ∧ rB r v S') → Q v H' := fun v {H'} ⟨S', h1, h2, h3⟩ => fin0 v S' H' h1 h2 h3
    have w0 : Wd pt0 S0 H0 S0 H0 [] := Wd.start e0
    have hm0 : Mir.run (m__law_is_prime p_number) s0 = some (r, s') := hm0
    unfold m__law_is_prime at hm0
    have sc := sc__law_is_prime
    refine ⟨_, pss_cons (ps_if (pt_cmpR op_lt (pv 0) (pe_int) (nomark _)) (pss_cons (ps_ret (pe_cmpR op_gt (pv 0) (pe_int) (nomark _))) (pss_nil)) (pss_nil)) (pss_cons (ps_set (i := 1) sc.nd rfl (by first | exact Or.inl rfl | exact Or.inr rfl) (pe_int)) (pss_cons (ps_while PassesOwn.never (PW.pt (pw_and (pt_cmpR op_le (pe_op op_mulX (pv 1) (pv 1)) (pv 0) (nomark _)) (pw_and1 (pt_cmpR op_gt (pe_op op_mod (pe_callTy call_int1 (by rfl) T.n_int (by decide +kernel) (pa_cons (pv 0) pa_nil)) (pv 1)) (pe_int) (nomark _))))) (pss_cons (ps_set (i := 1) sc.nd rfl (by first | exact Or.inl rfl | exact Or.inr rfl) (pe_op op_add (pv 1) (pe_int))) (pss_nil))) (pss_cons (ps_ret (pe_cmpR op_gt (pe_op op_mulX (pv 1) (pv 1)) (pv 0) (nomark _))) (pss_nil)))), ?_⟩
    refine q_if w0 p0 (t_Test (e_lt (e_var (R := rI) rfl rfl) e_cI)) hm0 ?_ ?_
    · intro S1 H2 s3 w4 p5 g6 hm7
      refine q_ret w4 p5 (e_gt (e_var (R := rI) rfl rfl) e_cI) hm7 ?_
      intro r15 v16 S8 H9 s10 w11 p12 g14 rr17 hm13
      cases run_of_pure hm13
      exact fin _ ⟨S8, w11.g, p12, rr17⟩
    · intro S18 H19 s20 w21 p22 g23 hm24
      refine nx_done ?_
      refine q_set (fun v => [some (.int p_number), some v]) (fun _ => rfl) w21 p22 e_cI hm24 ?_
      intro p25 vp33 S26 H27 s28 w29 p30 g32 rp34 hm31
      cases (show vp33 = .int p25 from rp34)
      refine q_wh (p := pt0) (fun st35 σ S' H' s' => σ = [some (.int p_number), some (.int st35)] ∧ Wd pt0 S0 H0 S' H' [] ∧ PotAt pt0 s' S' H' ∧ Ex S26 S') ⟨rfl, w29, p30, Ex.rf⟩ hm31 ?_ ?_ ?_ ?_
      · rintro st35 _ S41 H42 s43 ⟨rfl, w38, p39, eb40⟩
        exact ⟨p39, w38.i, (t_and (t_Test (e_le (e_mul (e_var (R := rI) rfl rfl) (e_var (R := rI) rfl rfl)) (e_var (R := rI) rfl rfl))) (t_Test (e_gt (e_mod (c_int (e_var (R := rI) rfl rfl)) (e_var (R := rI) rfl rfl)) e_cI)))⟩
      · rintro st35 _ S47 H48 s49 S50 H51 s52 ⟨rfl, w44, p45, eb46⟩ g53 p54
        exact ⟨rfl, w44.go g53, p54, eb46.tr g53.s⟩
      · rintro st35 _ S58 H59 s60 st35_ s2_ D_ ⟨rfl, w55, p56, eb57⟩ hm61 nx62
        refine q_set (fun v => [some (.int p_number), some v]) (fun _ => rfl) w55 p56 (e_add (e_var (R := rI) rfl rfl) e_cI) hm61 ?_
        intro p66 vp74 S67 H68 s69 w70 p71 g73 rp75 hm72
        cases (show vp74 = .int p66 from rp75)
        have eb57 := eb57.tr g73.s
        cases run_of_pure hm72
        exact (nx62 _ _ _ ⟨rfl, w70, p71, eb57⟩).1
      · rintro st35 _ S79 H80 s81 ⟨rfl, w76, p77, eb78⟩ hm82
        refine q_ret w76 p77 (e_gt (e_mul (e_var (R := rI) rfl rfl) (e_var (R := rI) rfl rfl)) (e_var (R := rI) rfl rfl)) hm82 ?_
        intro r90 v91 S83 H84 s85 w86 p87 g89 rr92 hm88
        cases run_of_pure hm88
        exact fin _ ⟨S83, w86.g, p87, rr92⟩
end
abbrev t__law_parting : Stmt := top 29
theorem sc__law_parting : FnScope ["number", "found", "p", "k"] ["number"] (defScope t__law_parting) := ⟨rfl, rfl, rfl, by decide +kernel, rfl, by decide +kernel, by decide +kernel⟩
@[irreducible] noncomputable def m__law_parting (p_number : Int) : Option (List (Int × Int)) :=
Mir.lft (grd (List.length ([] : List (Int × Int)) ≤ 16000000)) >>= fun _ => bnd ([] : List (Int × Int)) fun found1 =>
bnd (2 : Int) fun p12 =>
(whS many (fun (st22 : Int × (List (Int × Int)) × Int) k => Mir.lft (grd (Sm st22.2.2 ∧ Sm st22.2.2)) >>= fun _ => k (decide ((st22.2.2 * st22.2.2) ≤ st22.1))) (fun (st22 : Int × (List (Int × Int)) × Int) =>
bnd (0 : Int) fun k65 =>
(whS many (fun (st75 : Int × Int) k => Mir.lft (grd (0 < st22.2.2)) >>= fun _ => k (decide ((st75.1 % st22.2.2) = (0 : Int)))) (fun (st75 : Int × Int) =>
Mir.lft (grd (Dv st22.2.2)) >>= fun _ => bnd (st75.1 / st22.2.2) fun number106 =>
bnd (st75.2 + (1 : Int)) fun k116 =>
pure (number106, k116)) (st22.1, k65)) >>= fun (st75 : Int × Int) =>
((if (decide ((0 : Int) < st75.2)) = true then
(Mir.lft (grd (List.length st22.2.1 < 16000000)) >>= fun _ => bnd (st22.2.1 ++ [(st22.2.2, st75.2)]) fun found143 =>
pure found143)
else
(pure st22.2.1)) >>= fun (st133 : (List (Int × Int))) =>
bnd (st22.2.2 + (1 : Int)) fun p172 =>
pure (st75.1, st133, p172))) (p_number, found1, p12)) >>= fun (st22 : Int × (List (Int × Int)) × Int) =>
(if (decide ((1 : Int) < st22.1)) = true then Mir.lft (grd (List.length ([(st22.1, (1 : Int))] : List (Int × Int)) ≤ 16000000)) >>= fun _ => pure ([(st22.1, (1 : Int))] : List (Int × Int)) else Mir.lft (grd (List.length ([] : List (Int × Int)) ≤ 16000000)) >>= fun _ => pure ([] : List (Int × Int))) >>= fun c207 => Mir.lft (grd (List.length st22.2.1 + List.length c207 ≤ 16000000)) >>= fun _ => bnd (st22.2.1 ++ c207) fun r203 => pure r203
noncomputable abbrev fm__law_parting : (Int) → Option (List (Int × Int)) := fun a => m__law_parting a
abbrev sp__law_parting (K : PySem.W.Frag) : Sp := spN F0 fm__law_parting (fun _ => (aOne rI)) (aAll (rT K (aCons rI (aOne rI))))
section
variable {P : Program} {w : World} {K : PySem.W.Frag} {mg : Str → Option Value} {base : Heap}
theorem g__law_parting (T : Tx mg base)  {f : Addr} {fd : FuncData} (F : Fun K "_law_parting" "_law_parting" t__law_parting f fd) : FnG P w K mg base CX0 1 f fd ["number"] (sp__law_parting K) := by
  refine okG0 F sc__law_parting (fun vs H Q E h => ?_) (fun cdv A outer s0_ H0 vs Q E hr gd h => ?_)
  · obtain ⟨_, _, _, _, _, _, _, _, ⟨_, rfl, _⟩, _⟩ := h
    rfl
  · obtain ⟨_, p_number, S0, s0, r, s', e0, p0, ⟨_, rfl, rfl⟩, hm0, fin0⟩ := h
    have fin : ∀ v {H' : Hp}, (∃ S' q us, v = .ref q ∧ Gm (pt0).M S0 H0 S' H' ∧ PotAt pt0 s' S' H' ∧ H0 q = none ∧ H' q = some (.lst us) ∧ S' q = none ∧ (aAll (rT K (aCons rI (aOne rI)))) r us S') → Q v H' := fun v {H'} ⟨S', q, us, h0, h1, h2, h3, h4, h5, h6⟩ => by subst h0; exact fin0 q us S' H' h1 h2 h3 h4 h5 h6
    have w0 : Wd pt0 S0 H0 S0 H0 [] := Wd.start e0
    have hm0 : Mir.run (m__law_parting p_number) s0 = some (r, s') := hm0
    unfold m__law_parting at hm0
    have sc := sc__law_parting
    refine ⟨_, pss_cons (ps_par (i := 1) (j := 2) rfl sc.nd rfl rfl (by decide) rfl rfl (pa_cons (pe_lst (pa_nil)) (pa_cons (pe_int) (pa_nil))) (by rfl)) (pss_cons (ps_while PassesOwn.never (pt_cmpR op_le (pe_op op_mulX (pv 2) (pv 2)) (pv 0) (nomark _)) (pss_cons (ps_set (i := 3) sc.nd rfl (by first | exact Or.inl rfl | exact Or.inr rfl) (pe_int)) (pss_cons (ps_while PassesOwn.never (pt_cmpR op_eq (pe_op op_mod (pe_callTy call_int1 (by rfl) T.n_int (by decide +kernel) (pa_cons (pv 0) pa_nil)) (pv 2)) (pe_int) (nomark _)) (pss_cons (ps_par (i := 0) (j := 3) rfl sc.nd rfl rfl (by decide) rfl rfl (pa_cons (pe_op op_fdivW (pv 0) (pv 2)) (pa_cons (pe_op op_add (pv 3) (pe_int)) (pa_nil))) (by rfl)) (pss_nil))) (pss_cons (ps_if (pt_cmpR op_gt (pv 3) (pe_int) (nomark _)) (pss_cons (ps_expr (pe_bm PySem.F.plainAttrs_list PySem.F.slot_list_append PySem.F.type_list_append mt_append (pv 1) (pa_cons (pe_tup (pa_cons (pv 2) (pa_cons (pv 3) (pa_nil)))) pa_nil))) (pss_nil)) (pss_nil)) (pss_cons (ps_set (i := 2) sc.nd rfl (by first | exact Or.inl rfl | exact Or.inr rfl) (pe_op op_add (pv 2) (pe_int))) (pss_nil)))))) (pss_cons (ps_ret (pe_op op_cat (pv 1) (pe_ifExp (pt_cmpR op_gt (pv 0) (pe_int) (nomark _)) (pe_lst (pa_cons (pe_tup (pa_cons (pv 0) (pa_cons (pe_int) (pa_nil)))) (pa_nil))) (pe_lst (pa_nil))))) (pss_nil))), ?_⟩
    refine par_go ?_
    refine x_evL w0 p0 (l_lstL (a_nilL (R := (rT K (aCons rI (aOne rI)))))) hm0 ?_
    intro found1 q9 vs10 S2 H3 s4 w5 p6 g8 rfound11 hm7
    have rfound11 : All (rT K (aCons rI (aOne rI))) _ _ _ := rfound11
    refine x_ev w5 p6 e_cI hm7 ?_
    intro p12 vp20 S13 H14 s15 w16 p17 g19 rp21 hm18
    cases (show vp20 = .int p12 from rp21)
    have rfound11 := All.mo g19.s rfound11
    refine par_end [some (.int p_number), some (.ref q9), some (.int p12), none] rfl ?_
    refine q_wh (p := pt0) (fun st22 σ S' H' s' => ∃ (qfound_ : Addr) (usfound_ : List V) (xk_ : Option V), σ = [some (.int st22.1), some (.ref qfound_), some (.int st22.2.2), xk_] ∧ Wd pt0 S0 H0 S' H' [(qfound_, .lst usfound_)] ∧ PotAt pt0 s' S' H' ∧ Ex S13 S' ∧ All (rT K (aCons rI (aOne rI))) S' st22.2.1 usfound_) ⟨_, _, _, rfl, w16, p17, Ex.rf, rfound11⟩ hm18 ?_ ?_ ?_ ?_
    · rintro st22 _ S32 H33 s34 ⟨qfound25, usfound26, xk27, rfl, w29, p30, eb31, rfound28⟩
      exact ⟨p30, w29.i, (t_Test (e_le (e_mul (e_var (R := rI) rfl rfl) (e_var (R := rI) rfl rfl)) (e_var (R := rI) rfl rfl)))⟩
    · rintro st22 _ S42 H43 s44 S45 H46 s47 ⟨qfound35, usfound36, xk37, rfl, w39, p40, eb41, rfound38⟩ g48 p49
      exact ⟨_, _, _, rfl, w39.go g48, p49, eb41.tr g48.s, All.mo g48.s rfound38⟩
    · rintro st22 _ S57 H58 s59 st22_ s2_ D_ ⟨qfound50, usfound51, xk52, rfl, w54, p55, eb56, rfound53⟩ hm60 nx61
      refine q_set (fun v => [some (.int st22.1), some (.ref qfound50), some (.int st22.2.2), some v]) (fun _ => rfl) w54 p55 e_cI hm60 ?_
      intro k65 vk73 S66 H67 s68 w69 p70 g72 rk74 hm71
      cases (show vk73 = .int k65 from rk74)
      have rfound53 := All.mo g72.s rfound53
      have eb56 := eb56.tr g72.s
      refine q_wh (p := pt0) (fun st75 σ S' H' s' => σ = [some (.int st75.1), some (.ref qfound50), some (.int st22.2.2), some (.int st75.2)] ∧ Wd pt0 S0 H0 S' H' [(qfound50, .lst usfound51)] ∧ PotAt pt0 s' S' H' ∧ Ex S66 S') ⟨rfl, w69, p70, Ex.rf⟩ hm71 ?_ ?_ ?_ ?_
      · rintro st75 _ S81 H82 s83 ⟨rfl, w78, p79, eb80⟩
        have rfound53 := All.mo eb80 rfound53
        have eb56 := eb56.tr eb80
        exact ⟨p79, w78.i, (t_Test (e_eq (e_mod (c_int (e_var (R := rI) rfl rfl)) (e_var (R := rI) rfl rfl)) e_cI))⟩
      · rintro st75 _ S87 H88 s89 S90 H91 s92 ⟨rfl, w84, p85, eb86⟩ g93 p94
        exact ⟨rfl, w84.go g93, p94, eb86.tr g93.s⟩
      · rintro st75 _ S98 H99 s100 st75_ s2_ D_ ⟨rfl, w95, p96, eb97⟩ hm101 nx102
        have rfound53 := All.mo eb97 rfound53
        have eb56 := eb56.tr eb97
        refine par_go ?_
        refine x_ev w95 p96 (e_fdiv (e_var (R := rI) rfl rfl) (e_var (R := rI) rfl rfl)) hm101 ?_
        intro number106 vnumber114 S107 H108 s109 w110 p111 g113 rnumber115 hm112
        cases (show vnumber114 = .int number106 from rnumber115)
        have rfound53 := All.mo g113.s rfound53
        have eb56 := eb56.tr g113.s
        have eb97 := eb97.tr g113.s
        refine x_ev w110 p111 (e_add (e_var (R := rI) rfl rfl) e_cI) hm112 ?_
        intro k116 vk124 S117 H118 s119 w120 p121 g123 rk125 hm122
        cases (show vk124 = .int k116 from rk125)
        have rfound53 := All.mo g123.s rfound53
        have eb56 := eb56.tr g123.s
        have eb97 := eb97.tr g123.s
        refine par_end [some (.int number106), some (.ref qfound50), some (.int st22.2.2), some (.int k116)] rfl ?_
        cases run_of_pure hm122
        exact (nx102 _ _ _ ⟨rfl, w120, p121, eb97⟩).1
      · rintro st75 _ S129 H130 s131 ⟨rfl, w126, p127, eb128⟩ hm132
        have rfound53 := All.mo eb128 rfound53
        have eb56 := eb56.tr eb128
        refine q_ifj (p := pt0) (fun st133 σ S' H' s' => ∃ (qfound_ : Addr) (usfound_ : List V), σ = [some (.int st75.1), some (.ref qfound_), some (.int st22.2.2), some (.int st75.2)] ∧ Wd pt0 S0 H0 S' H' [(qfound_, .lst usfound_)] ∧ PotAt pt0 s' S' H' ∧ Ex S129 S' ∧ All (rT K (aCons rI (aOne rI))) S' st133 usfound_) w126 p127 (t_Test (e_gt (e_var (R := rI) rfl rfl) e_cI)) hm132 ?_ ?_ ?_
        · intro S134 H135 s136 st133_ s2_ D_ w137 p138 g139 hm140 nx141
          have rfound53 := All.mo g139.s rfound53
          have eb56 := eb56.tr g139.s
          have eb142 := g139.s
          refine q_app (j := 0) w137 p138 rfl rfl rfound53 (e_tup (K := K) (a_cons (e_var (R := rI) rfl rfl) (a_one (e_var (R := rI) rfl rfl))) (arN_cons arN_one) (by decide)) hm140 ?_
          intro found143 vs144 S146 H147 s148 w149 p150 e152 rfound145 hm151
          have eb56 := eb56.tr e152
          have eb142 := eb142.tr e152
          cases run_of_pure hm151
          exact nx141 _ _ _ ⟨_, _, rfl, w149, p150, eb142, rfound145⟩
        · intro S153 H154 s155 st133_ s2_ D_ w156 p157 g158 hm159 nx160
          have rfound53 := All.mo g158.s rfound53
          have eb56 := eb56.tr g158.s
          have eb161 := g158.s
          cases run_of_pure hm159
          exact nx160 _ _ _ ⟨_, _, rfl, w156, p157, eb161, rfound53⟩
        · rintro st133 _ S168 H169 s170 ⟨qfound162, usfound163, rfl, w165, p166, eb167, rfound164⟩ hm171
          have eb56 := eb56.tr eb167
          refine q_set (fun v => [some (.int st75.1), some (.ref qfound162), some v, some (.int st75.2)]) (fun _ => rfl) w165 p166 (e_add (e_var (R := rI) rfl rfl) e_cI) hm171 ?_
          intro p172 vp180 S173 H174 s175 w176 p177 g179 rp181 hm178
          cases (show vp180 = .int p172 from rp181)
          have rfound164 := All.mo g179.s rfound164
          have eb56 := eb56.tr g179.s
          cases run_of_pure hm178
          exact (nx61 _ _ _ ⟨_, _, _, rfl, w176, p177, eb56, rfound164⟩).1
    · rintro st22 _ S192 H193 s194 ⟨qfound185, usfound186, xk187, rfl, w189, p190, eb191, rfound188⟩ hm195
      refine q_retL w189 p190 (l_cat (w_own (A := (aAll (rT K (aCons rI (aOne rI))))) (j := 0) w189 rfl rfl rfound188) (EvL.rd (l_if (α := (List (Int × Int))) (t_Test (e_gt (e_var (R := rI) rfl rfl) e_cI)) (l_lstL (a_consL (e_tup (K := K) (a_cons (e_var (R := rI) rfl rfl) (a_one e_cI)) (arN_cons arN_one) (by decide)) (a_nilL (R := (rT K (aCons rI (aOne rI))))))) (l_lstL (a_nilL (R := (rT K (aCons rI (aOne rI))))))))) hm195 ?_
      intro r203 q204 vs205 S196 H197 s198 w199 p200 g202 rr206 hm201
      cases run_of_pure hm201
      exact fin _ ⟨S196, q204, vs205, rfl, w199.g, p200, (w199.at (i := 0) rfl).2.2, (w199.at (i := 0) rfl).1, (w199.at (i := 0) rfl).2.1, rr206⟩
end
abbrev t__law_primes_to : Stmt := top 30
theorem sc__law_primes_to : FnScope ["most", "flags", "p", "x"] ["most"] (defScope t__law_primes_to) := ⟨rfl, rfl, rfl, by decide +kernel, rfl, by decide +kernel, by decide +kernel⟩
@[irreducible] noncomputable def m__law_primes_to (p_most : Int) : Option (List Int) :=
Mir.lft (grd (List.length ([true] : List Bool) ≤ 16000000)) >>= fun _ => Mir.lft (grd (RpB (List.length ([true] : List Bool)) (p_most + (1 : Int)))) >>= fun _ => bnd (List.replicate (Int.toNat (p_most + (1 : Int))) ([true] : List Bool)).flatten fun flags1 =>
bnd (2 : Int) fun p12 =>
(whS many (fun (st27 : (List Bool) × Int) k => Mir.lft (grd (Sm st27.2 ∧ Sm st27.2)) >>= fun _ => k (decide ((st27.2 * st27.2) ≤ p_most))) (fun (st27 : (List Bool) × Int) =>
Mir.lft (grd (Sm st27.2 ∧ Sm st27.2)) >>= fun _ => Mir.lft (grd (Rg3 (st27.2 * st27.2) (p_most + (1 : Int)) st27.2)) >>= fun _ => (lpS (rng3 (st27.2 * st27.2) (p_most + (1 : Int)) st27.2) (fun (x72 : Int) (st70 : (List Bool)) =>
Mir.lft (ixN (List.length st70) x72) >>= fun o130 => bnd (List.set st70 o130 false) fun flags120 =>
pure flags120) st27.1) >>= fun (st70 : (List Bool)) =>
bnd (st27.2 + (1 : Int)) fun p142 =>
pure (st70, p142)) (flags1, p12)) >>= fun (st27 : (List Bool) × Int) =>
Mir.lft (grd (RgB (2 : Int) ∧ RgB (p_most + (1 : Int)))) >>= fun _ => Mir.lft (grd (List.length (rng (2 : Int) (p_most + (1 : Int))) ≤ 16000000)) >>= fun _ => cmp (rng (2 : Int) (p_most + (1 : Int))) (fun x163 => Mir.lft (L2.atI st27.1 x163) >>= fun y166 => if y166 = true then pure (some x163) else pure none) >>= fun l179 => bnd l179 fun r175 => pure r175
noncomputable abbrev fm__law_primes_to : (Int) → Option (List Int) := fun a => m__law_primes_to a
abbrev sp__law_primes_to (K : PySem.W.Frag) : Sp := spN F0 fm__law_primes_to (fun _ => (aOne rI)) (aAll rI)
section
variable {P : Program} {w : World} {K : PySem.W.Frag} {mg : Str → Option Value} {base : Heap}
theorem g__law_primes_to (T : Tx mg base)  {f : Addr} {fd : FuncData} (F : Fun K "_law_primes_to" "_law_primes_to" t__law_primes_to f fd) : FnG P w K mg base CX0 1 f fd ["most"] (sp__law_primes_to K) := by
  refine okG0 F sc__law_primes_to (fun vs H Q E h => ?_) (fun cdv A outer s0_ H0 vs Q E hr gd h => ?_)
  · obtain ⟨_, _, _, _, _, _, _, _, ⟨_, rfl, _⟩, _⟩ := h
    rfl
  · obtain ⟨_, p_most, S0, s0, r, s', e0, p0, ⟨_, rfl, rfl⟩, hm0, fin0⟩ := h
    have fin : ∀ v {H' : Hp}, (∃ S' q us, v = .ref q ∧ Gm (pt0).M S0 H0 S' H' ∧ PotAt pt0 s' S' H' ∧ H0 q = none ∧ H' q = some (.lst us) ∧ S' q = none ∧ (aAll rI) r us S') → Q v H' := fun v {H'} ⟨S', q, us, h0, h1, h2, h3, h4, h5, h6⟩ => by subst h0; exact fin0 q us S' H' h1 h2 h3 h4 h5 h6
    have w0 : Wd pt0 S0 H0 S0 H0 [] := Wd.start e0
    have hm0 : Mir.run (m__law_primes_to p_most) s0 = some (r, s') := hm0
    unfold m__law_primes_to at hm0
    have sc := sc__law_primes_to
    refine ⟨_, pss_cons (ps_asg (pe_tup (pa_cons (pe_op op_rep (pe_lst (pa_cons (pe_bl) (pa_nil))) (pe_op op_add (pv 0) (pe_int))) (pa_cons (pe_int) (pa_nil)))) (k_gt K (pgs_cons (pg_name (i := 1) sc.nd rfl (by first | exact Or.inl rfl | exact Or.inr rfl)) (pgs_cons (pg_name (i := 2) sc.nd rfl (by first | exact Or.inl rfl | exact Or.inr rfl)) (pgs_nil))))) (pss_cons (ps_while PassesOwn.never (pt_cmpR op_le (pe_op op_mulX (pv 2) (pv 2)) (pv 0) (nomark _)) (pss_cons (ps_for PassesOwn.never rfl (pi_range3 rfl T.n_range (pa_cons (pe_op op_mulX (pv 2) (pv 2)) (pa_cons (pe_op op_add (pv 0) (pe_int)) (pa_cons (pv 2) pa_nil)))) (pg_name (i := 3) sc.nd rfl (by first | exact Or.inl rfl | exact Or.inr rfl)) (pss_cons (ps_asg (pe_bl) (pg_sub (pv 1) (pv 3) set_list)) (pss_nil))) (pss_cons (ps_set (i := 2) sc.nd rfl (by first | exact Or.inl rfl | exact Or.inr rfl) (pe_op op_add (pv 2) (pe_int))) (pss_nil)))) (pss_cons (ps_ret (pe_lc (own := [("x", 3)]) (g := (gName 3)) rfl sc.nd (pi_range2 rfl T.n_range (pa_cons (pe_int) (pa_cons (pe_op op_add (pv 0) (pe_int)) pa_nil))) (blkOk_by (N := ["most", "flags", "p", "x"]) (sc := defScope t__law_primes_to) (by decide +kernel)) (fun _ _ _ _ _ => pg_name (i := 3) sc.nd rfl (by first | exact Or.inl rfl | exact Or.inr rfl)) (fun _ _ _ _ _ => pts_one (pt_val (pe_ix (k_ixL K) (pv 1) (pv 3) (fun _ _ => rfl)))) (fun _ _ _ _ _ => pv 3))) (pss_nil))), ?_⟩
    refine tup2_go ?_
    refine x_evL w0 p0 (l_rep (EvL.rd (l_lstL (a_consL e_cB (a_nilL (R := rB))))) (e_add (e_var (R := rI) rfl rfl) e_cI)) hm0 ?_
    intro flags1 q9 vs10 S2 H3 s4 w5 p6 g8 rflags11 hm7
    have rflags11 : All rB _ _ _ := rflags11
    refine x_ev w5 p6 e_cI hm7 ?_
    intro p12 vp20 S13 H14 s15 w16 p17 g19 rp21 hm18
    cases (show vp20 = .int p12 from rp21)
    have rflags11 := All.mo g19.s rflags11
    refine tup_end (is := [1, 2]) [some (.int p_most), some (.ref q9), some (.int p12), none] w16 p17 rfl (by simp) rfl ?_
    intro S22 H23 w24 p25 g26
    have rflags11 := All.mo g26.s rflags11
    refine q_wh (p := pt0) (fun st27 σ S' H' s' => ∃ (qflags_ : Addr) (usflags_ : List V) (xx_ : Option V), σ = [some (.int p_most), some (.ref qflags_), some (.int st27.2), xx_] ∧ Wd pt0 S0 H0 S' H' [(qflags_, .lst usflags_)] ∧ PotAt pt0 s' S' H' ∧ Ex S22 S' ∧ All rB S' st27.1 usflags_) ⟨_, _, _, rfl, w24, p25, Ex.rf, rflags11⟩ hm18 ?_ ?_ ?_ ?_
    · rintro st27 _ S37 H38 s39 ⟨qflags30, usflags31, xx32, rfl, w34, p35, eb36, rflags33⟩
      exact ⟨p35, w34.i, (t_Test (e_le (e_mul (e_var (R := rI) rfl rfl) (e_var (R := rI) rfl rfl)) (e_var (R := rI) rfl rfl)))⟩
    · rintro st27 _ S47 H48 s49 S50 H51 s52 ⟨qflags40, usflags41, xx42, rfl, w44, p45, eb46, rflags43⟩ g53 p54
      exact ⟨_, _, _, rfl, w44.go g53, p54, eb46.tr g53.s, All.mo g53.s rflags43⟩
    · rintro st27 _ S62 H63 s64 st27_ s2_ D_ ⟨qflags55, usflags56, xx57, rfl, w59, p60, eb61, rflags58⟩ hm65 nx66
      refine q_for (p := pt0) w59 p60 (i_R3 (e_mul (e_var (R := rI) rfl rfl) (e_var (R := rI) rfl rfl)) (e_add (e_var (R := rI) rfl rfl) e_cI) (e_var (R := rI) rfl rfl)) (g_nm (R := rI)) hm65 (fun Sb71 st70 σ S' H' s' => Ex Sb71 S' ∧ (∃ (qflags_ : Addr) (usflags_ : List V) (xx_ : Option V), σ = [some (.int p_most), some (.ref qflags_), some (.int st27.2), xx_] ∧ Wd pt0 S0 H0 S' H' [(qflags_, .lst usflags_)] ∧ PotAt pt0 s' S' H' ∧ Ex S62 S' ∧ All rB S' st70 usflags_)) ?_ ?_ ?_ ?_ ?_
      · intro S73 H74 s75 w76 p77 g78
        have rflags58 := All.mo g78.s rflags58
        have eb61 := eb61.tr g78.s
        exact ⟨Ex.rf, ⟨_, _, _, rfl, w76, p77, g78.s, rflags58⟩⟩
      · rintro Sb71 st70 _ S86 H87 s88 ⟨ex89, ⟨qflags79, usflags80, xx81, rfl, w83, p84, eb85, rflags82⟩⟩
        exact ⟨ex89, w83.i, p84, ownOk0⟩
      · rintro Sb71 st70 _ S97 H98 s99 S100 H101 ⟨ex103, ⟨qflags90, usflags91, xx92, rfl, w94, p95, eb96, rflags93⟩⟩ g102
        exact ⟨ex103.tr g102.s, _, _, _, rfl, w94.go (Gm.up g102), PotAt.go p95 g102, eb96.tr g102.s, All.mo g102.s rflags93⟩
      · rintro Sb71 x72 st70 _ σ119 S111 H112 s113 st70_ s2_ D_ ⟨ex118, ⟨qflags104, usflags105, xx106, rfl, w108, p109, eb110, rflags107⟩⟩ hp hm114 nx115
        obtain ⟨_, rfl, rfl⟩ := hp
        have eb61 := eb61.tr eb110
        refine q_put (j := 0) w108 p109 rfl rfl rflags107 e_cB (e_var (R := rI) rfl rfl) hm114 ?_
        intro flags120 vs121 S123 H124 s125 w126 p127 e129 rflags122 hm128
        have eb61 := eb61.tr e129
        have eb110 := eb110.tr e129
        have ex118 := ex118.tr e129
        cases run_of_pure hm128
        exact (nx115 _ _ _ ⟨ex118, ⟨_, _, _, rfl, w126, p127, eb110, rflags122⟩⟩).1
      · rintro Sb71 st70 _ S138 H139 s140 ⟨_, ⟨qflags131, usflags132, xx133, rfl, w135, p136, eb137, rflags134⟩⟩ hm141
        have eb61 := eb61.tr eb137
        refine q_set (fun v => [some (.int p_most), some (.ref qflags131), some v, xx133]) (fun _ => rfl) w135 p136 (e_add (e_var (R := rI) rfl rfl) e_cI) hm141 ?_
        intro p142 vp150 S143 H144 s145 w146 p147 g149 rp151 hm148
        cases (show vp150 = .int p142 from rp151)
        have rflags134 := All.mo g149.s rflags134
        have eb61 := eb61.tr g149.s
        cases run_of_pure hm148
        exact (nx66 _ _ _ ⟨_, _, _, rfl, w146, p147, eb61, rflags134⟩).1
    · rintro st27 _ S159 H160 s161 ⟨qflags152, usflags153, xx154, rfl, w156, p157, eb158, rflags155⟩ hm162
      refine q_retL w156 p157 (l_lc (γ := Int) (vs := [3]) (mt := fun x163 k => Mir.lft (L2.atI st27.1 x163) >>= fun y167 => k y167) (me := fun x163 k => k x163) (R' := rI) (i_R2 e_cI (e_add (e_var (R := rI) rfl rfl) e_cI)) ownOk0 (g_nm (R := rI)) (fun x σ' S hp => by obtain ⟨_, rfl, _⟩ := hp; rfl) (fun x163 σ' S1 H1 g164 hp => by have w165 := w156.go g164; obtain ⟨_, rfl, rfl⟩ := hp; have rflags155 := All.mo g164.s rflags155; exact (t_B (e_ixL (w_own (A := (aAll rB)) (j := 0) w165 rfl rfl rflags155) (e_var (R := rI) rfl rfl)))) (fun x163 σ' S1 H1 g164 hp => by have w165 := w156.go g164; obtain ⟨_, rfl, rfl⟩ := hp; have rflags155 := All.mo g164.s rflags155; exact (e_var (R := rI) rfl rfl)) pm_nm) hm162 ?_
      intro r175 q176 vs177 S168 H169 s170 w171 p172 g174 rr178 hm173
      cases run_of_pure hm173
      exact fin _ ⟨S168, q176, vs177, rfl, w171.g, p172, (w171.at (i := 0) rfl).2.2, (w171.at (i := 0) rfl).1, (w171.at (i := 0) rfl).2.1, rr178⟩
end
abbrev t__law_times : Stmt := top 31
theorem sc__law_times : FnScope ["n", "p", "found"] ["n", "p"] (defScope t__law_times) := ⟨rfl, rfl, rfl, by decide +kernel, rfl, by decide +kernel, by decide +kernel⟩
@[irreducible] noncomputable def m__law_times (p_n : Int) (p_p : Int) : Option Int :=
bnd (0 : Int) fun found1 =>
(whS many (fun (st11 : Int × Int) k => k (decide ((0 : Int) < st11.1))) (fun (st11 : Int × Int) =>
Mir.lft (grd (Dv p_p)) >>= fun _ => bnd (st11.1 / p_p) fun n42 =>
bnd (st11.2 + n42) fun found52 =>
pure (n42, found52)) (p_n, found1)) >>= fun (st11 : Int × Int) =>
bnd st11.2 fun r76 => pure r76
noncomputable abbrev fm__law_times : (Int × Int) → Option Int := fun a => m__law_times a.1 a.2
abbrev sp__law_times (K : PySem.W.Frag) : Sp := spV F0 fm__law_times (fun _ => (aCons rI (aOne rI))) rI
section
variable {P : Program} {w : World} {K : PySem.W.Frag} {mg : Str → Option Value} {base : Heap}
theorem g__law_times (T : Tx mg base)  {f : Addr} {fd : FuncData} (F : Fun K "_law_times" "_law_times" t__law_times f fd) : FnG P w K mg base CX0 1 f fd ["n", "p"] (sp__law_times K) := by
  refine okG0 F sc__law_times (fun vs H Q E h => ?_) (fun cdv A outer s0_ H0 vs Q E hr gd h => ?_)
  · obtain ⟨_, _, _, _, _, _, _, _, ⟨_, _, rfl, _, ⟨_, rfl, _⟩⟩, _⟩ := h
    rfl
  · obtain ⟨_, a, S0, s0, r, s', e0, p0, ⟨_, _, rfl, rfl, ⟨_, rfl, rfl⟩⟩, hm0, fin0⟩ := h
    obtain ⟨p_n, p_p⟩ := a
    have fin : ∀ v {H' : Hp}, (∃ S', Gm (pt0).M S0 H0 S' H' ∧ PotAt pt0 s' S' H' ∧ rI r v S') → Q v H' := fun v {H'} ⟨S', h1, h2, h3⟩ => fin0 v S' H' h1 h2 h3
    have w0 : Wd pt0 S0 H0 S0 H0 [] := Wd.start e0
    have hm0 : Mir.run (m__law_times p_n p_p) s0 = some (r, s') := hm0
    unfold m__law_times at hm0
    have sc := sc__law_times
    refine ⟨_, pss_cons (ps_set (i := 2) sc.nd rfl (by first | exact Or.inl rfl | exact Or.inr rfl) (pe_int)) (pss_cons (ps_while PassesOwn.never (pt_cmpR op_gt (pv 0) (pe_int) (nomark _)) (pss_cons (ps_set (i := 0) sc.nd rfl (by first | exact Or.inl rfl | exact Or.inr rfl) (pe_op op_fdivW (pv 0) (pv 1))) (pss_cons (ps_set (i := 2) sc.nd rfl (by first | exact Or.inl rfl | exact Or.inr rfl) (pe_op op_add (pv 2) (pv 0))) (pss_nil)))) (pss_cons (ps_ret (pv 2)) (pss_nil))), ?_⟩
    refine q_set (fun v => [some (.int p_n), some (.int p_p), some v]) (fun _ => rfl) w0 p0 e_cI hm0 ?_
    intro found1 vfound9 S2 H3 s4 w5 p6 g8 rfound10 hm7
    cases (show vfound9 = .int found1 from rfound10)
    refine q_wh (p := pt0) (fun st11 σ S' H' s' => σ = [some (.int st11.1), some (.int p_p), some (.int st11.2)] ∧ Wd pt0 S0 H0 S' H' [] ∧ PotAt pt0 s' S' H' ∧ Ex S2 S') ⟨rfl, w5, p6, Ex.rf⟩ hm7 ?_ ?_ ?_ ?_
    · rintro st11 _ S17 H18 s19 ⟨rfl, w14, p15, eb16⟩
      exact ⟨p15, w14.i, (t_Test (e_gt (e_var (R := rI) rfl rfl) e_cI))⟩
    · rintro st11 _ S23 H24 s25 S26 H27 s28 ⟨rfl, w20, p21, eb22⟩ g29 p30
      exact ⟨rfl, w20.go g29, p30, eb22.tr g29.s⟩
    · rintro st11 _ S34 H35 s36 st11_ s2_ D_ ⟨rfl, w31, p32, eb33⟩ hm37 nx38
      refine q_set (fun v => [some v, some (.int p_p), some (.int st11.2)]) (fun _ => rfl) w31 p32 (e_fdiv (e_var (R := rI) rfl rfl) (e_var (R := rI) rfl rfl)) hm37 ?_
      intro n42 vn50 S43 H44 s45 w46 p47 g49 rn51 hm48
      cases (show vn50 = .int n42 from rn51)
      have eb33 := eb33.tr g49.s
      refine q_set (fun v => [some (.int n42), some (.int p_p), some v]) (fun _ => rfl) w46 p47 (e_add (e_var (R := rI) rfl rfl) (e_var (R := rI) rfl rfl)) hm48 ?_
      intro found52 vfound60 S53 H54 s55 w56 p57 g59 rfound61 hm58
      cases (show vfound60 = .int found52 from rfound61)
      have eb33 := eb33.tr g59.s
      cases run_of_pure hm58
      exact (nx38 _ _ _ ⟨rfl, w56, p57, eb33⟩).1
    · rintro st11 _ S65 H66 s67 ⟨rfl, w62, p63, eb64⟩ hm68
      refine q_ret w62 p63 (e_var (R := rI) rfl rfl) hm68 ?_
      intro r76 v77 S69 H70 s71 w72 p73 g75 rr78 hm74
      cases run_of_pure hm74
      exact fin _ ⟨S69, w72.g, p73, rr78⟩
end
abbrev t__law_figures : Stmt := top 32
theorem sc__law_figures : FnScope ["n", "p", "found"] ["n", "p"] (defScope t__law_figures) := ⟨rfl, rfl, rfl, by decide +kernel, rfl, by decide +kernel, by decide +kernel⟩
@[irreducible] noncomputable def m__law_figures (p_n : Int) (p_p : Int) : Option (List Int) :=
Mir.lft (grd (List.length ([] : List Int) ≤ 16000000)) >>= fun _ => bnd ([] : List Int) fun found1 =>
(whS many (fun (st12 : Int × (List Int)) k => k (decide ((0 : Int) < st12.1))) (fun (st12 : Int × (List Int)) =>
Mir.lft (grd (0 < p_p)) >>= fun _ => Mir.lft (grd (List.length st12.2 < 16000000)) >>= fun _ => bnd (st12.2 ++ [(st12.1 % p_p)]) fun found52 =>
Mir.lft (grd (Dv p_p)) >>= fun _ => bnd (st12.1 / p_p) fun n62 =>
pure (n62, found52)) (p_n, found1)) >>= fun (st12 : Int × (List Int)) =>
bnd st12.2 fun r89 => pure r89
noncomputable abbrev fm__law_figures : (Int × Int) → Option (List Int) := fun a => m__law_figures a.1 a.2
abbrev sp__law_figures (K : PySem.W.Frag) : Sp := spN F0 fm__law_figures (fun _ => (aCons rI (aOne rI))) (aAll rI)
section
variable {P : Program} {w : World} {K : PySem.W.Frag} {mg : Str → Option Value} {base : Heap}
theorem g__law_figures (T : Tx mg base)  {f : Addr} {fd : FuncData} (F : Fun K "_law_figures" "_law_figures" t__law_figures f fd) : FnG P w K mg base CX0 1 f fd ["n", "p"] (sp__law_figures K) := by
  refine okG0 F sc__law_figures (fun vs H Q E h => ?_) (fun cdv A outer s0_ H0 vs Q E hr gd h => ?_)
  · obtain ⟨_, _, _, _, _, _, _, _, ⟨_, _, rfl, _, ⟨_, rfl, _⟩⟩, _⟩ := h
    rfl
  · obtain ⟨_, a, S0, s0, r, s', e0, p0, ⟨_, _, rfl, rfl, ⟨_, rfl, rfl⟩⟩, hm0, fin0⟩ := h
    obtain ⟨p_n, p_p⟩ := a
    have fin : ∀ v {H' : Hp}, (∃ S' q us, v = .ref q ∧ Gm (pt0).M S0 H0 S' H' ∧ PotAt pt0 s' S' H' ∧ H0 q = none ∧ H' q = some (.lst us) ∧ S' q = none ∧ (aAll rI) r us S') → Q v H' := fun v {H'} ⟨S', q, us, h0, h1, h2, h3, h4, h5, h6⟩ => by subst h0; exact fin0 q us S' H' h1 h2 h3 h4 h5 h6
    have w0 : Wd pt0 S0 H0 S0 H0 [] := Wd.start e0
    have hm0 : Mir.run (m__law_figures p_n p_p) s0 = some (r, s') := hm0
    unfold m__law_figures at hm0
    have sc := sc__law_figures
    refine ⟨_, pss_cons (ps_set (i := 2) sc.nd rfl (by first | exact Or.inl rfl | exact Or.inr rfl) (pe_lst (pa_nil))) (pss_cons (ps_while PassesOwn.never (pt_cmpR op_gt (pv 0) (pe_int) (nomark _)) (pss_cons (ps_expr (pe_bm PySem.F.plainAttrs_list PySem.F.slot_list_append PySem.F.type_list_append mt_append (pv 2) (pa_cons (pe_op op_mod (pe_callTy call_int1 (by rfl) T.n_int (by decide +kernel) (pa_cons (pv 0) pa_nil)) (pv 1)) pa_nil))) (pss_cons (ps_set (i := 0) sc.nd rfl (by first | exact Or.inl rfl | exact Or.inr rfl) (pe_op op_fdivW (pv 0) (pv 1))) (pss_nil)))) (pss_cons (ps_ret (pv 2)) (pss_nil))), ?_⟩
    refine q_setL (fun v => [some (.int p_n), some (.int p_p), some v]) (fun _ => rfl) w0 p0 (l_lstL (a_nilL (R := rI))) hm0 ?_
    intro found1 q9 vs10 S2 H3 s4 w5 p6 g8 rfound11 hm7
    have rfound11 : All rI _ _ _ := rfound11
    refine q_wh (p := pt0) (fun st12 σ S' H' s' => ∃ (qfound_ : Addr) (usfound_ : List V), σ = [some (.int st12.1), some (.int p_p), some (.ref qfound_)] ∧ Wd pt0 S0 H0 S' H' [(qfound_, .lst usfound_)] ∧ PotAt pt0 s' S' H' ∧ Ex S2 S' ∧ All rI S' st12.2 usfound_) ⟨_, _, rfl, w5, p6, Ex.rf, rfound11⟩ hm7 ?_ ?_ ?_ ?_
    · rintro st12 _ S21 H22 s23 ⟨qfound15, usfound16, rfl, w18, p19, eb20, rfound17⟩
      exact ⟨p19, w18.i, (t_Test (e_gt (e_var (R := rI) rfl rfl) e_cI))⟩
    · rintro st12 _ S30 H31 s32 S33 H34 s35 ⟨qfound24, usfound25, rfl, w27, p28, eb29, rfound26⟩ g36 p37
      exact ⟨_, _, rfl, w27.go g36, p37, eb29.tr g36.s, All.mo g36.s rfound26⟩
    · rintro st12 _ S44 H45 s46 st12_ s2_ D_ ⟨qfound38, usfound39, rfl, w41, p42, eb43, rfound40⟩ hm47 nx48
      refine q_app (j := 0) w41 p42 rfl rfl rfound40 (e_mod (c_int (e_var (R := rI) rfl rfl)) (e_var (R := rI) rfl rfl)) hm47 ?_
      intro found52 vs53 S55 H56 s57 w58 p59 e61 rfound54 hm60
      have eb43 := eb43.tr e61
      refine q_set (fun v => [some v, some (.int p_p), some (.ref qfound38)]) (fun _ => rfl) w58 p59 (e_fdiv (e_var (R := rI) rfl rfl) (e_var (R := rI) rfl rfl)) hm60 ?_
      intro n62 vn70 S63 H64 s65 w66 p67 g69 rn71 hm68
      cases (show vn70 = .int n62 from rn71)
      have rfound54 := All.mo g69.s rfound54
      have eb43 := eb43.tr g69.s
      cases run_of_pure hm68
      exact (nx48 _ _ _ ⟨_, _, rfl, w66, p67, eb43, rfound54⟩).1
    · rintro st12 _ S78 H79 s80 ⟨qfound72, usfound73, rfl, w75, p76, eb77, rfound74⟩ hm81
      refine q_retO (rfl : _ = some (some (V.ref qfound72))) hm81 ?_
      intro hm87
      cases run_of_pure hm87
      exact fin _ ⟨_, _, _, rfl, w75.g, p76, (w75.at (i := 0) rfl).2.2, (w75.at (i := 0) rfl).1, (w75.at (i := 0) rfl).2.1, rfound74⟩
end
abbrev t__law_choose : Stmt := top 33
theorem sc__law_choose : FnScope ["n", "k", "found", "i"] ["n", "k"] (defScope t__law_choose) := ⟨rfl, rfl, rfl, by decide +kernel, rfl, by decide +kernel, by decide +kernel⟩
@[irreducible] noncomputable def m__law_choose (p_n : Int) (p_k : Int) : Option Int :=
bnd (1 : Int) fun found1 =>
Mir.lft (grd (RgB p_k)) >>= fun _ => (lpS (rng 0 p_k) (fun (x13 : Int) (st11 : Int) =>
Mir.lft (grd (Sm st11 ∧ Sm (p_n - x13))) >>= fun _ => Mir.lft (grd (Dv (x13 + (1 : Int)))) >>= fun _ => bnd ((st11 * (p_n - x13)) / (x13 + (1 : Int))) fun found52 =>
pure found52) found1) >>= fun (st11 : Int) =>
bnd (if (decide (p_k ≤ p_n)) = true then st11 else (0 : Int)) fun r77 => pure r77
noncomputable abbrev fm__law_choose : (Int × Int) → Option Int := fun a => m__law_choose a.1 a.2
abbrev sp__law_choose (K : PySem.W.Frag) : Sp := spV F0 fm__law_choose (fun _ => (aCons rI (aOne rI))) rI
section
variable {P : Program} {w : World} {K : PySem.W.Frag} {mg : Str → Option Value} {base : Heap}
theorem g__law_choose (T : Tx mg base)  {f : Addr} {fd : FuncData} (F : Fun K "_law_choose" "_law_choose" t__law_choose f fd) : FnG P w K mg base CX0 1 f fd ["n", "k"] (sp__law_choose K) := by
  refine okG0 F sc__law_choose (fun vs H Q E h => ?_) (fun cdv A outer s0_ H0 vs Q E hr gd h => ?_)
  · obtain ⟨_, _, _, _, _, _, _, _, ⟨_, _, rfl, _, ⟨_, rfl, _⟩⟩, _⟩ := h
    rfl
  · obtain ⟨_, a, S0, s0, r, s', e0, p0, ⟨_, _, rfl, rfl, ⟨_, rfl, rfl⟩⟩, hm0, fin0⟩ := h
    obtain ⟨p_n, p_k⟩ := a
    have fin : ∀ v {H' : Hp}, (∃ S', Gm (pt0).M S0 H0 S' H' ∧ PotAt pt0 s' S' H' ∧ rI r v S') → Q v H' := fun v {H'} ⟨S', h1, h2, h3⟩ => fin0 v S' H' h1 h2 h3
    have w0 : Wd pt0 S0 H0 S0 H0 [] := Wd.start e0
    have hm0 : Mir.run (m__law_choose p_n p_k) s0 = some (r, s') := hm0
    unfold m__law_choose at hm0
    have sc := sc__law_choose
    refine ⟨_, pss_cons (ps_set (i := 2) sc.nd rfl (by first | exact Or.inl rfl | exact Or.inr rfl) (pe_int)) (pss_cons (ps_for PassesOwn.never rfl (pi_range1 rfl T.n_range (pa_cons (pv 1) pa_nil)) (pg_name (i := 3) sc.nd rfl (by first | exact Or.inl rfl | exact Or.inr rfl)) (pss_cons (ps_set (i := 2) sc.nd rfl (by first | exact Or.inl rfl | exact Or.inr rfl) (pe_op op_fdivW (pe_op op_mulX (pv 2) (pe_op op_sub (pv 0) (pv 3))) (pe_op op_add (pv 3) (pe_int)))) (pss_nil))) (pss_cons (ps_ret (pe_ifExp (pt_cmpR op_le (pv 1) (pv 0) (nomark _)) (pv 2) (pe_int))) (pss_nil))), ?_⟩
    refine q_set (fun v => [some (.int p_n), some (.int p_k), some v, none]) (fun _ => rfl) w0 p0 e_cI hm0 ?_
    intro found1 vfound9 S2 H3 s4 w5 p6 g8 rfound10 hm7
    cases (show vfound9 = .int found1 from rfound10)
    refine q_for (p := pt0) w5 p6 (i_R1 (e_var (R := rI) rfl rfl)) (g_nm (R := rI)) hm7 (fun Sb12 st11 σ S' H' s' => Ex Sb12 S' ∧ (∃ (xi_ : Option V), σ = [some (.int p_n), some (.int p_k), some (.int st11), xi_] ∧ Wd pt0 S0 H0 S' H' [] ∧ PotAt pt0 s' S' H' ∧ Ex S2 S')) ?_ ?_ ?_ ?_ ?_
    · intro S14 H15 s16 w17 p18 g19
      exact ⟨Ex.rf, ⟨_, rfl, w17, p18, g19.s⟩⟩
    · rintro Sb12 st11 _ S24 H25 s26 ⟨ex27, ⟨xi20, rfl, w21, p22, eb23⟩⟩
      exact ⟨ex27, w21.i, p22, ownOk0⟩
    · rintro Sb12 st11 _ S32 H33 s34 S35 H36 ⟨ex38, ⟨xi28, rfl, w29, p30, eb31⟩⟩ g37
      exact ⟨ex38.tr g37.s, _, rfl, w29.go (Gm.up g37), PotAt.go p30 g37, eb31.tr g37.s⟩
    · rintro Sb12 x13 st11 _ σ51 S43 H44 s45 st11_ s2_ D_ ⟨ex50, ⟨xi39, rfl, w40, p41, eb42⟩⟩ hp hm46 nx47
      obtain ⟨_, rfl, rfl⟩ := hp
      refine q_set (fun v => [some (.int p_n), some (.int p_k), some v, some (.int x13)]) (fun _ => rfl) w40 p41 (e_fdiv (e_mul (e_var (R := rI) rfl rfl) (e_sub (e_var (R := rI) rfl rfl) (e_var (R := rI) rfl rfl))) (e_add (e_var (R := rI) rfl rfl) e_cI)) hm46 ?_
      intro found52 vfound60 S53 H54 s55 w56 p57 g59 rfound61 hm58
      cases (show vfound60 = .int found52 from rfound61)
      have eb42 := eb42.tr g59.s
      have ex50 := ex50.tr g59.s
      cases run_of_pure hm58
      exact (nx47 _ _ _ ⟨ex50, ⟨_, rfl, w56, p57, eb42⟩⟩).1
    · rintro Sb12 st11 _ S66 H67 s68 ⟨_, ⟨xi62, rfl, w63, p64, eb65⟩⟩ hm69
      refine q_ret w63 p64 (e_ifT (R := rI) (t_Test (e_le (e_var (R := rI) rfl rfl) (e_var (R := rI) rfl rfl))) (e_var (R := rI) rfl rfl) e_cI) hm69 ?_
      intro r77 v78 S70 H71 s72 w73 p74 g76 rr79 hm75
      cases run_of_pure hm75
      exact fin _ ⟨S70, w73.g, p74, rr79⟩
end
abbrev t__law_products : Stmt := top 35
theorem sc__law_products : FnScope ["p", "found", "x"] ["p"] (defScope t__law_products) := ⟨rfl, rfl, rfl, by decide +kernel, rfl, by decide +kernel, by decide +kernel⟩
@[irreducible] noncomputable def m__law_products (p_p : Int) : Option (List Int) :=
Mir.lft (grd (0 < p_p)) >>= fun _ => Mir.lft (grd (List.length ([((1 : Int) % p_p)] : List Int) ≤ 16000000)) >>= fun _ => bnd ([((1 : Int) % p_p)] : List Int) fun found1 =>
Mir.lft (grd (RgB (1 : Int) ∧ RgB p_p)) >>= fun _ => (lpS (rng (1 : Int) p_p) (fun (x14 : Int) (st12 : (List Int)) =>
Mir.lft (L2.atI st12 (-(1 : Int))) >>= fun y72 => Mir.lft (grd (Sm y72 ∧ Sm x14)) >>= fun _ => Mir.lft (grd (0 < p_p)) >>= fun _ => Mir.lft (grd (List.length st12 < 16000000)) >>= fun _ => bnd (st12 ++ [((y72 * x14) % p_p)]) fun found62 =>
pure found62) found1) >>= fun (st12 : (List Int)) =>
bnd st12 fun r91 => pure r91
noncomputable abbrev fm__law_products : (Int) → Option (List Int) := fun a => m__law_products a
abbrev sp__law_products (K : PySem.W.Frag) : Sp := spN F0 fm__law_products (fun _ => (aOne rI)) (aAll rI)
section
variable {P : Program} {w : World} {K : PySem.W.Frag} {mg : Str → Option Value} {base : Heap}
theorem g__law_products (T : Tx mg base)  {f : Addr} {fd : FuncData} (F : Fun K "_law_products" "_law_products" t__law_products f fd) : FnG P w K mg base CX0 1 f fd ["p"] (sp__law_products K) := by
  refine okG0 F sc__law_products (fun vs H Q E h => ?_) (fun cdv A outer s0_ H0 vs Q E hr gd h => ?_)
  · obtain ⟨_, _, _, _, _, _, _, _, ⟨_, rfl, _⟩, _⟩ := h
    rfl
  · obtain ⟨_, p_p, S0, s0, r, s', e0, p0, ⟨_, rfl, rfl⟩, hm0, fin0⟩ := h
    have fin : ∀ v {H' : Hp}, (∃ S' q us, v = .ref q ∧ Gm (pt0).M S0 H0 S' H' ∧ PotAt pt0 s' S' H' ∧ H0 q = none ∧ H' q = some (.lst us) ∧ S' q = none ∧ (aAll rI) r us S') → Q v H' := fun v {H'} ⟨S', q, us, h0, h1, h2, h3, h4, h5, h6⟩ => by subst h0; exact fin0 q us S' H' h1 h2 h3 h4 h5 h6
    have w0 : Wd pt0 S0 H0 S0 H0 [] := Wd.start e0
    have hm0 : Mir.run (m__law_products p_p) s0 = some (r, s') := hm0
    unfold m__law_products at hm0
    have sc := sc__law_products
    refine ⟨_, pss_cons (ps_set (i := 1) sc.nd rfl (by first | exact Or.inl rfl | exact Or.inr rfl) (pe_lst (pa_cons (pe_op op_mod (pe_int) (pv 0)) (pa_nil)))) (pss_cons (ps_for PassesOwn.never rfl (pi_range2 rfl T.n_range (pa_cons (pe_int) (pa_cons (pv 0) pa_nil))) (pg_name (i := 2) sc.nd rfl (by first | exact Or.inl rfl | exact Or.inr rfl)) (pss_cons (ps_expr (pe_bm PySem.F.plainAttrs_list PySem.F.slot_list_append PySem.F.type_list_append mt_append (pv 1) (pa_cons (pe_op op_mod (pe_op op_mulX (pe_ix (k_ixL K) (pv 1) (pe_un un_neg (pe_int)) (fun _ _ => rfl)) (pv 2)) (pv 0)) pa_nil))) (pss_nil))) (pss_cons (ps_ret (pv 1)) (pss_nil))), ?_⟩
    refine q_setL (fun v => [some (.int p_p), some v, none]) (fun _ => rfl) w0 p0 (l_lstL (a_consL (e_mod e_cI (e_var (R := rI) rfl rfl)) (a_nilL (R := rI)))) hm0 ?_
    intro found1 q9 vs10 S2 H3 s4 w5 p6 g8 rfound11 hm7
    have rfound11 : All rI _ _ _ := rfound11
    refine q_for (p := pt0) w5 p6 (i_R2 e_cI (e_var (R := rI) rfl rfl)) (g_nm (R := rI)) hm7 (fun Sb13 st12 σ S' H' s' => Ex Sb13 S' ∧ (∃ (qfound_ : Addr) (usfound_ : List V) (xx_ : Option V), σ = [some (.int p_p), some (.ref qfound_), xx_] ∧ Wd pt0 S0 H0 S' H' [(qfound_, .lst usfound_)] ∧ PotAt pt0 s' S' H' ∧ Ex S2 S' ∧ All rI S' st12 usfound_)) ?_ ?_ ?_ ?_ ?_
    · intro S15 H16 s17 w18 p19 g20
      have rfound11 := All.mo g20.s rfound11
      exact ⟨Ex.rf, ⟨_, _, _, rfl, w18, p19, g20.s, rfound11⟩⟩
    · rintro Sb13 st12 _ S28 H29 s30 ⟨ex31, ⟨qfound21, usfound22, xx23, rfl, w25, p26, eb27, rfound24⟩⟩
      exact ⟨ex31, w25.i, p26, ownOk0⟩
    · rintro Sb13 st12 _ S39 H40 s41 S42 H43 ⟨ex45, ⟨qfound32, usfound33, xx34, rfl, w36, p37, eb38, rfound35⟩⟩ g44
      exact ⟨ex45.tr g44.s, _, _, _, rfl, w36.go (Gm.up g44), PotAt.go p37 g44, eb38.tr g44.s, All.mo g44.s rfound35⟩
    · rintro Sb13 x14 st12 _ σ61 S53 H54 s55 st12_ s2_ D_ ⟨ex60, ⟨qfound46, usfound47, xx48, rfl, w50, p51, eb52, rfound49⟩⟩ hp hm56 nx57
      obtain ⟨_, rfl, rfl⟩ := hp
      refine q_app (j := 0) w50 p51 rfl rfl rfound49 (e_mod (e_mul (e_ixL (w_own (A := (aAll rI)) (j := 0) w50 rfl rfl rfound49) (e_neg e_cI)) (e_var (R := rI) rfl rfl)) (e_var (R := rI) rfl rfl)) hm56 ?_
      intro found62 vs63 S65 H66 s67 w68 p69 e71 rfound64 hm70
      have eb52 := eb52.tr e71
      have ex60 := ex60.tr e71
      cases run_of_pure hm70
      exact (nx57 _ _ _ ⟨ex60, ⟨_, _, _, rfl, w68, p69, eb52, rfound64⟩⟩).1
    · rintro Sb13 st12 _ S80 H81 s82 ⟨_, ⟨qfound73, usfound74, xx75, rfl, w77, p78, eb79, rfound76⟩⟩ hm83
      refine q_retO (rfl : _ = some (some (V.ref qfound73))) hm83 ?_
      intro hm89
      cases run_of_pure hm89
      exact fin _ ⟨_, _, _, rfl, w77.g, p78, (w77.at (i := 0) rfl).2.2, (w77.at (i := 0) rfl).1, (w77.at (i := 0) rfl).2.1, rfound76⟩
end
abbrev t__law_rest : Stmt := top 36
theorem sc__law_rest : FnScope ["n", "p", "products", "found"] ["n", "p", "products"] (defScope t__law_rest) := ⟨rfl, rfl, rfl, by decide +kernel, rfl, by decide +kernel, by decide +kernel⟩
@[irreducible] noncomputable def m__law_rest (p_n : Int) (p_p : Int) (p_products : (List Int)) : Option Int :=
bnd (1 : Int) fun found1 =>
(whS many (fun (st11 : Int × Int) k => k (decide ((0 : Int) < st11.1))) (fun (st11 : Int × Int) =>
Mir.lft (grd (0 < p_p)) >>= fun _ => Mir.lft (L2.atI p_products (st11.1 % p_p)) >>= fun y62 => Mir.lft (grd (Sm st11.2 ∧ Sm y62)) >>= fun _ => Mir.lft (grd (Dv p_p)) >>= fun _ => Mir.lft (grd (0 < (2 : Int))) >>= fun _ => Mir.lft (grd (Sm (st11.2 * y62) ∧ Sm (if (decide (((st11.1 / p_p) % (2 : Int)) = (1 : Int))) = true then (p_p - (1 : Int)) else (1 : Int)))) >>= fun _ => Mir.lft (grd (0 < p_p)) >>= fun _ => bnd (((st11.2 * y62) * (if (decide (((st11.1 / p_p) % (2 : Int)) = (1 : Int))) = true then (p_p - (1 : Int)) else (1 : Int))) % p_p) fun found42 =>
Mir.lft (grd (Dv p_p)) >>= fun _ => bnd (st11.1 / p_p) fun n52 =>
pure (n52, found42)) (p_n, found1)) >>= fun (st11 : Int × Int) =>
Mir.lft (grd (0 < p_p)) >>= fun _ => bnd (st11.2 % p_p) fun r77 => pure r77
noncomputable abbrev fm__law_rest : (Int × Int × (List Int)) → Option Int := fun a => m__law_rest a.1 a.2.1 a.2.2
abbrev sp__law_rest (K : PySem.W.Frag) : Sp := spV F0 fm__law_rest (fun _ => (aCons rI (aCons rI (aOne (rL (aAll rI)))))) rI
section
variable {P : Program} {w : World} {K : PySem.W.Frag} {mg : Str → Option Value} {base : Heap}
theorem g__law_rest (T : Tx mg base)  {f : Addr} {fd : FuncData} (F : Fun K "_law_rest" "_law_rest" t__law_rest f fd) : FnG P w K mg base CX0 1 f fd ["n", "p", "products"] (sp__law_rest K) := by
  refine okG0 F sc__law_rest (fun vs H Q E h => ?_) (fun cdv A outer s0_ H0 vs Q E hr gd h => ?_)
  · obtain ⟨_, _, _, _, _, _, _, _, ⟨_, _, rfl, _, ⟨_, _, rfl, _, ⟨_, rfl, _⟩⟩⟩, _⟩ := h
    rfl
  · obtain ⟨_, a, S0, s0, r, s', e0, p0, ⟨_, _, rfl, rfl, ⟨_, _, rfl, rfl, ⟨v_products, rfl, r_products⟩⟩⟩, hm0, fin0⟩ := h
    obtain ⟨p_n, p_p, p_products⟩ := a
    have fin : ∀ v {H' : Hp}, (∃ S', Gm (pt0).M S0 H0 S' H' ∧ PotAt pt0 s' S' H' ∧ rI r v S') → Q v H' := fun v {H'} ⟨S', h1, h2, h3⟩ => fin0 v S' H' h1 h2 h3
    have w0 : Wd pt0 S0 H0 S0 H0 [] := Wd.start e0
    have hm0 : Mir.run (m__law_rest p_n p_p p_products) s0 = some (r, s') := hm0
    unfold m__law_rest at hm0
    have sc := sc__law_rest
    refine ⟨_, pss_cons (ps_set (i := 3) sc.nd rfl (by first | exact Or.inl rfl | exact Or.inr rfl) (pe_int)) (pss_cons (ps_while PassesOwn.never (pt_cmpR op_gt (pv 0) (pe_int) (nomark _)) (pss_cons (ps_set (i := 3) sc.nd rfl (by first | exact Or.inl rfl | exact Or.inr rfl) (pe_op op_mod (pe_op op_mulX (pe_op op_mulX (pv 3) (pe_ix (k_ixL K) (pv 2) (pe_op op_mod (pe_callTy call_int1 (by rfl) T.n_int (by decide +kernel) (pa_cons (pv 0) pa_nil)) (pv 1)) (fun _ _ => rfl))) (pe_ifExp (pt_cmpR op_eq (pe_op op_mod (pe_op op_fdivW (pv 0) (pv 1)) (pe_int)) (pe_int) (nomark _)) (pe_op op_sub (pv 1) (pe_int)) (pe_int))) (pv 1))) (pss_cons (ps_set (i := 0) sc.nd rfl (by first | exact Or.inl rfl | exact Or.inr rfl) (pe_op op_fdivW (pv 0) (pv 1))) (pss_nil)))) (pss_cons (ps_ret (pe_op op_mod (pv 3) (pv 1))) (pss_nil))), ?_⟩
    refine q_set (fun v => [some (.int p_n), some (.int p_p), some v_products, some v]) (fun _ => rfl) w0 p0 e_cI hm0 ?_
    intro found1 vfound9 S2 H3 s4 w5 p6 g8 rfound10 hm7
    cases (show vfound9 = .int found1 from rfound10)
    have r_products := Mo.mo g8.s r_products
    refine q_wh (p := pt0) (fun st11 σ S' H' s' => σ = [some (.int st11.1), some (.int p_p), some v_products, some (.int st11.2)] ∧ Wd pt0 S0 H0 S' H' [] ∧ PotAt pt0 s' S' H' ∧ Ex S2 S') ⟨rfl, w5, p6, Ex.rf⟩ hm7 ?_ ?_ ?_ ?_
    · rintro st11 _ S17 H18 s19 ⟨rfl, w14, p15, eb16⟩
      have r_products := Mo.mo eb16 r_products
      exact ⟨p15, w14.i, (t_Test (e_gt (e_var (R := rI) rfl rfl) e_cI))⟩
    · rintro st11 _ S23 H24 s25 S26 H27 s28 ⟨rfl, w20, p21, eb22⟩ g29 p30
      exact ⟨rfl, w20.go g29, p30, eb22.tr g29.s⟩
    · rintro st11 _ S34 H35 s36 st11_ s2_ D_ ⟨rfl, w31, p32, eb33⟩ hm37 nx38
      have r_products := Mo.mo eb33 r_products
      refine q_set (fun v => [some (.int st11.1), some (.int p_p), some v_products, some v]) (fun _ => rfl) w31 p32 (e_mod (e_mul (e_mul (e_var (R := rI) rfl rfl) (e_ixL (Ev.rd (e_var rfl r_products)) (e_mod (c_int (e_var (R := rI) rfl rfl)) (e_var (R := rI) rfl rfl)))) (e_ifT (R := rI) (t_Test (e_eq (e_mod (e_fdiv (e_var (R := rI) rfl rfl) (e_var (R := rI) rfl rfl)) e_cI) e_cI)) (e_sub (e_var (R := rI) rfl rfl) e_cI) e_cI)) (e_var (R := rI) rfl rfl)) hm37 ?_
      intro found42 vfound50 S43 H44 s45 w46 p47 g49 rfound51 hm48
      cases (show vfound50 = .int found42 from rfound51)
      have r_products := Mo.mo g49.s r_products
      have eb33 := eb33.tr g49.s
      refine q_set (fun v => [some v, some (.int p_p), some v_products, some (.int found42)]) (fun _ => rfl) w46 p47 (e_fdiv (e_var (R := rI) rfl rfl) (e_var (R := rI) rfl rfl)) hm48 ?_
      intro n52 vn60 S53 H54 s55 w56 p57 g59 rn61 hm58
      cases (show vn60 = .int n52 from rn61)
      have r_products := Mo.mo g59.s r_products
      have eb33 := eb33.tr g59.s
      cases run_of_pure hm58
      exact (nx38 _ _ _ ⟨rfl, w56, p57, eb33⟩).1
    · rintro st11 _ S66 H67 s68 ⟨rfl, w63, p64, eb65⟩ hm69
      have r_products := Mo.mo eb65 r_products
      refine q_ret w63 p64 (e_mod (e_var (R := rI) rfl rfl) (e_var (R := rI) rfl rfl)) hm69 ?_
      intro r77 v78 S70 H71 s72 w73 p74 g76 rr79 hm75
      cases run_of_pure hm75
      exact fin _ ⟨S70, w73.g, p74, rr79⟩
end
abbrev t__law_carried : Stmt := top 37
theorem sc__law_carried : FnScope ["n", "k", "p", "size", "place", "one", "other", "found", "more", "a", "b"] ["n", "k", "p"] (defScope t__law_carried) := ⟨rfl, rfl, rfl, by decide +kernel, rfl, by decide +kernel, by decide +kernel⟩
@[irreducible] noncomputable def m__law_carried (p_n : Int) (p_k : Int) (p_p : Int) : Option (List Int) :=
Mir.lft (m__law_figures p_k p_p) >>= fun r182 => bnd r182 fun one1 =>
Mir.lft (m__law_figures (p_n - p_k) p_p) >>= fun r181 => bnd r181 fun other11 =>
Mir.lft (grd (List.length ([] : List Int) ≤ 16000000)) >>= fun _ => bnd ([] : List Int) fun found21 =>
bnd (0 : Int) fun more32 =>
bnd (if (List.length other11 : Int) > (List.length one1 : Int) then (List.length other11 : Int) else (List.length one1 : Int)) fun size47 =>
Mir.lft (grd (RgB (size47 + (1 : Int)))) >>= fun _ => (lpS (rng 0 (size47 + (1 : Int))) (fun (x59 : Int) (st57 : (List Int) × Int) =>
(if (decide (x59 < (List.length one1 : Int))) = true then Mir.lft (L2.atI one1 x59) >>= fun y157 => pure y157 else pure (0 : Int)) >>= fun c156 => bnd c156 fun a113 =>
(if (decide (x59 < (List.length other11 : Int))) = true then Mir.lft (L2.atI other11 x59) >>= fun y155 => pure y155 else pure (0 : Int)) >>= fun c154 => bnd c154 fun b123 =>
bnd (if (decide (p_p ≤ ((a113 + b123) + st57.2))) = true then (1 : Int) else 0) fun more133 =>
(if (decide (more133 = (1 : Int))) = true then Mir.lft (grd (List.length ([x59] : List Int) ≤ 16000000)) >>= fun _ => pure ([x59] : List Int) else Mir.lft (grd (List.length ([] : List Int) ≤ 16000000)) >>= fun _ => pure ([] : List Int)) >>= fun c153 => Mir.lft (grd (List.length st57.1 + List.length c153 ≤ 16000000)) >>= fun _ => bnd (st57.1 ++ c153) fun found143 =>
pure (found143, more133)) (found21, more32)) >>= fun (st57 : (List Int) × Int) =>
bnd st57.1 fun r178 => pure r178
noncomputable abbrev fm__law_carried : (Int × Int × Int) → Option (List Int) := fun a => m__law_carried a.1 a.2.1 a.2.2
abbrev sp__law_carried (K : PySem.W.Frag) : Sp := spV F0 fm__law_carried (fun _ => (aCons rI (aCons rI (aOne rI)))) (rT K (aAll rI))
section
variable {P : Program} {w : World} {K : PySem.W.Frag} {mg : Str → Option Value} {base : Heap}
theorem g__law_carried (T : Tx mg base) (D0 : Dk P w K mg base "_law_figures" t__law_figures 1 ["n", "p"] (sp__law_figures K)) {f : Addr} {fd : FuncData} (F : Fun K "_law_carried" "_law_carried" t__law_carried f fd) : FnG P w K mg base CX0 2 f fd ["n", "k", "p"] (sp__law_carried K) := by
  obtain ⟨f0, fd0, F0, m0, G0, b0⟩ := D0
  refine okG0 F sc__law_carried (fun vs H Q E h => ?_) (fun cdv A outer s0_ H0 vs Q E hr gd h => ?_)
  · obtain ⟨_, _, _, _, _, _, _, _, ⟨_, _, rfl, _, ⟨_, _, rfl, _, ⟨_, rfl, _⟩⟩⟩, _⟩ := h
    rfl
  · obtain ⟨_, a, S0, s0, r, s', e0, p0, ⟨_, _, rfl, rfl, ⟨_, _, rfl, rfl, ⟨_, rfl, rfl⟩⟩⟩, hm0, fin0⟩ := h
    obtain ⟨p_n, p_k, p_p⟩ := a
    have fin : ∀ v {H' : Hp}, (∃ S', Gm (pt0).M S0 H0 S' H' ∧ PotAt pt0 s' S' H' ∧ (rT K (aAll rI)) r v S') → Q v H' := fun v {H'} ⟨S', h1, h2, h3⟩ => fin0 v S' H' h1 h2 h3
    have w0 : Wd pt0 S0 H0 S0 H0 [] := Wd.start e0
    have hm0 : Mir.run (m__law_carried p_n p_k p_p) s0 = some (r, s') := hm0
    unfold m__law_carried at hm0
    have sc := sc__law_carried
    refine ⟨_, pss_cons (ps_asg (pe_tup (pa_cons (pe_cG G0 (hr.mono (by decide)) gd rfl m0 F0.kp b0 pass0 (pa_cons (pv 1) (pa_cons (pv 2) (pa_nil)))) (pa_cons (pe_cG G0 (hr.mono (by decide)) gd rfl m0 F0.kp b0 pass0 (pa_cons (pe_op op_sub (pv 0) (pv 1)) (pa_cons (pv 2) (pa_nil)))) (pa_cons (pe_lst (pa_nil)) (pa_cons (pe_int) (pa_nil)))))) (k_gt K (pgs_cons (pg_name (i := 5) sc.nd rfl (by first | exact Or.inl rfl | exact Or.inr rfl)) (pgs_cons (pg_name (i := 6) sc.nd rfl (by first | exact Or.inl rfl | exact Or.inr rfl)) (pgs_cons (pg_name (i := 7) sc.nd rfl (by first | exact Or.inl rfl | exact Or.inr rfl)) (pgs_cons (pg_name (i := 8) sc.nd rfl (by first | exact Or.inl rfl | exact Or.inr rfl)) (pgs_nil))))))) (pss_cons (ps_set (i := 3) sc.nd rfl (by first | exact Or.inl rfl | exact Or.inr rfl) (pe_callB (call_max2 rfl) (by rfl) T.n_max (by decide +kernel) (pa_cons (pe_callB (k_len K) (by rfl) T.n_len (by decide +kernel) (pa_cons (pv 5) pa_nil)) (pa_cons (pe_callB (k_len K) (by rfl) T.n_len (by decide +kernel) (pa_cons (pv 6) pa_nil)) pa_nil)))) (pss_cons (ps_for PassesOwn.never rfl (pi_range1 rfl T.n_range (pa_cons (pe_op op_add (pv 3) (pe_int)) pa_nil)) (pg_name (i := 4) sc.nd rfl (by first | exact Or.inl rfl | exact Or.inr rfl)) (pss_cons (ps_set (i := 9) sc.nd rfl (by first | exact Or.inl rfl | exact Or.inr rfl) (pe_ifExp (pt_cmpR op_lt (pv 4) (pe_callB (k_len K) (by rfl) T.n_len (by decide +kernel) (pa_cons (pv 5) pa_nil)) (nomark _)) (pe_ix (k_ixL K) (pv 5) (pv 4) (fun _ _ => rfl)) (pe_int))) (pss_cons (ps_set (i := 10) sc.nd rfl (by first | exact Or.inl rfl | exact Or.inr rfl) (pe_ifExp (pt_cmpR op_lt (pv 4) (pe_callB (k_len K) (by rfl) T.n_len (by decide +kernel) (pa_cons (pv 6) pa_nil)) (nomark _)) (pe_ix (k_ixL K) (pv 6) (pv 4) (fun _ _ => rfl)) (pe_int))) (pss_cons (ps_set (i := 8) sc.nd rfl (by first | exact Or.inl rfl | exact Or.inr rfl) (pe_callTy call_int1 (by rfl) T.n_int (by decide +kernel) (pa_cons (pe_cmpR op_ge (pe_op op_add (pe_op op_add (pv 9) (pv 10)) (pv 8)) (pv 2) (nomark _)) pa_nil))) (pss_cons (ps_expr (pe_bm PySem.F.plainAttrs_list PySem.F.slot_list_extend PySem.F.type_list_extend mt_extend (pv 7) (pa_cons (pe_ifExp (pt_cmpR op_eq (pv 8) (pe_int) (nomark _)) (pe_lst (pa_cons (pv 4) (pa_nil))) (pe_lst (pa_nil))) pa_nil))) (pss_nil)))))) (pss_cons (ps_ret (pe_callTy (k_tupOf K) (by rfl) T.n_tuple (by decide +kernel) (pa_cons (pv 7) pa_nil))) (pss_nil)))), ?_⟩
    refine tup4_go ?_
    refine x_ev w0 p0 (EvL.frz (l_call (E := E0) (fm := fm__law_figures) (R := (aAll rI)) (a_cons (e_var (R := rI) rfl rfl) (a_one (e_var (R := rI) rfl rfl))))) hm0 ?_
    intro one1 vone9 S2 H3 s4 w5 p6 g8 rone10 hm7
    refine x_ev w5 p6 (EvL.frz (l_call (E := E0) (fm := fm__law_figures) (R := (aAll rI)) (a_cons (e_sub (e_var (R := rI) rfl rfl) (e_var (R := rI) rfl rfl)) (a_one (e_var (R := rI) rfl rfl))))) hm7 ?_
    intro other11 vother19 S12 H13 s14 w15 p16 g18 rother20 hm17
    have rone10 := Mo.mo g18.s rone10
    refine x_evL w15 p16 (l_lstL (a_nilL (R := rI))) hm17 ?_
    intro found21 q29 vs30 S22 H23 s24 w25 p26 g28 rfound31 hm27
    have rfound31 : All rI _ _ _ := rfound31
    have rone10 := Mo.mo g28.s rone10
    have rother20 := Mo.mo g28.s rother20
    refine x_ev w25 p26 e_cI hm27 ?_
    intro more32 vmore40 S33 H34 s35 w36 p37 g39 rmore41 hm38
    cases (show vmore40 = .int more32 from rmore41)
    have rone10 := Mo.mo g39.s rone10
    have rother20 := Mo.mo g39.s rother20
    have rfound31 := All.mo g39.s rfound31
    refine tup_end (is := [5, 6, 7, 8]) [some (.int p_n), some (.int p_k), some (.int p_p), none, none, some vone9, some vother19, some (.ref q29), some (.int more32), none, none] w36 p37 rfl (by simp) rfl ?_
    intro S42 H43 w44 p45 g46
    have rone10 := Mo.mo g46.s rone10
    have rother20 := Mo.mo g46.s rother20
    have rfound31 := All.mo g46.s rfound31
    refine q_set (fun v => [some (.int p_n), some (.int p_k), some (.int p_p), some v, none, some vone9, some vother19, some (.ref q29), some (.int more32), none, none]) (fun _ => rfl) w44 p45 (c_max2 (c_lenL (Ev.rd (e_var rfl rone10))) (c_lenL (Ev.rd (e_var rfl rother20)))) hm38 ?_
    intro size47 vsize55 S48 H49 s50 w51 p52 g54 rsize56 hm53
    cases (show vsize55 = .int size47 from rsize56)
    have rone10 := Mo.mo g54.s rone10
    have rother20 := Mo.mo g54.s rother20
    have rfound31 := All.mo g54.s rfound31
    refine q_for (p := pt0) w51 p52 (i_R1 (e_add (e_var (R := rI) rfl rfl) e_cI)) (g_nm (R := rI)) hm53 (fun Sb58 st57 σ S' H' s' => Ex Sb58 S' ∧ (∃ (xplace_ : Option V) (qfound_ : Addr) (usfound_ : List V) (xa_ : Option V) (xb_ : Option V), σ = [some (.int p_n), some (.int p_k), some (.int p_p), some (.int size47), xplace_, some vone9, some vother19, some (.ref qfound_), some (.int st57.2), xa_, xb_] ∧ Wd pt0 S0 H0 S' H' [(qfound_, .lst usfound_)] ∧ PotAt pt0 s' S' H' ∧ Ex S48 S' ∧ All rI S' st57.1 usfound_)) ?_ ?_ ?_ ?_ ?_
    · intro S60 H61 s62 w63 p64 g65
      have rone10 := Mo.mo g65.s rone10
      have rother20 := Mo.mo g65.s rother20
      have rfound31 := All.mo g65.s rfound31
      exact ⟨Ex.rf, ⟨_, _, _, _, _, rfl, w63, p64, g65.s, rfound31⟩⟩
    · rintro Sb58 st57 _ S75 H76 s77 ⟨ex78, ⟨xplace66, qfound67, usfound68, xa69, xb70, rfl, w72, p73, eb74, rfound71⟩⟩
      exact ⟨ex78, w72.i, p73, ownOk0⟩
    · rintro Sb58 st57 _ S88 H89 s90 S91 H92 ⟨ex94, ⟨xplace79, qfound80, usfound81, xa82, xb83, rfl, w85, p86, eb87, rfound84⟩⟩ g93
      exact ⟨ex94.tr g93.s, _, _, _, _, _, rfl, w85.go (Gm.up g93), PotAt.go p86 g93, eb87.tr g93.s, All.mo g93.s rfound84⟩
    · rintro Sb58 x59 st57 _ σ112 S104 H105 s106 st57_ s2_ D_ ⟨ex111, ⟨xplace95, qfound96, usfound97, xa98, xb99, rfl, w101, p102, eb103, rfound100⟩⟩ hp hm107 nx108
      obtain ⟨_, rfl, rfl⟩ := hp
      have rone10 := Mo.mo eb103 rone10
      have rother20 := Mo.mo eb103 rother20
      refine q_set (fun v => [some (.int p_n), some (.int p_k), some (.int p_p), some (.int size47), some (.int x59), some vone9, some vother19, some (.ref qfound96), some (.int st57.2), some v, xb99]) (fun _ => rfl) w101 p102 (e_if (R := rI) (t_Test (e_lt (e_var (R := rI) rfl rfl) (c_lenL (Ev.rd (e_var rfl rone10))))) (e_ixL (Ev.rd (e_var rfl rone10)) (e_var (R := rI) rfl rfl)) e_cI) hm107 ?_
      intro a113 va121 S114 H115 s116 w117 p118 g120 ra122 hm119
      cases (show va121 = .int a113 from ra122)
      have rone10 := Mo.mo g120.s rone10
      have rother20 := Mo.mo g120.s rother20
      have rfound100 := All.mo g120.s rfound100
      have eb103 := eb103.tr g120.s
      have ex111 := ex111.tr g120.s
      refine q_set (fun v => [some (.int p_n), some (.int p_k), some (.int p_p), some (.int size47), some (.int x59), some vone9, some vother19, some (.ref qfound96), some (.int st57.2), some (.int a113), some v]) (fun _ => rfl) w117 p118 (e_if (R := rI) (t_Test (e_lt (e_var (R := rI) rfl rfl) (c_lenL (Ev.rd (e_var rfl rother20))))) (e_ixL (Ev.rd (e_var rfl rother20)) (e_var (R := rI) rfl rfl)) e_cI) hm119 ?_
      intro b123 vb131 S124 H125 s126 w127 p128 g130 rb132 hm129
      cases (show vb131 = .int b123 from rb132)
      have rone10 := Mo.mo g130.s rone10
      have rother20 := Mo.mo g130.s rother20
      have rfound100 := All.mo g130.s rfound100
      have eb103 := eb103.tr g130.s
      have ex111 := ex111.tr g130.s
      refine q_set (fun v => [some (.int p_n), some (.int p_k), some (.int p_p), some (.int size47), some (.int x59), some vone9, some vother19, some (.ref qfound96), some v, some (.int a113), some (.int b123)]) (fun _ => rfl) w127 p128 (c_intB (e_ge (e_add (e_add (e_var (R := rI) rfl rfl) (e_var (R := rI) rfl rfl)) (e_var (R := rI) rfl rfl)) (e_var (R := rI) rfl rfl))) hm129 ?_
      intro more133 vmore141 S134 H135 s136 w137 p138 g140 rmore142 hm139
      cases (show vmore141 = .int more133 from rmore142)
      have rone10 := Mo.mo g140.s rone10
      have rother20 := Mo.mo g140.s rother20
      have rfound100 := All.mo g140.s rfound100
      have eb103 := eb103.tr g140.s
      have ex111 := ex111.tr g140.s
      refine q_ext (j := 0) w137 p138 rfl rfl rfound100 (l_if (α := (List Int)) (t_Test (e_eq (e_var (R := rI) rfl rfl) e_cI)) (l_lstL (a_consL (e_var (R := rI) rfl rfl) (a_nilL (R := rI)))) (l_lstL (a_nilL (R := rI)))) hm139 ?_
      intro found143 vs144 S146 H147 s148 w149 p150 e152 rfound145 hm151
      have rone10 := Mo.mo e152 rone10
      have rother20 := Mo.mo e152 rother20
      have eb103 := eb103.tr e152
      have ex111 := ex111.tr e152
      cases run_of_pure hm151
      exact (nx108 _ _ _ ⟨ex111, ⟨_, _, _, _, _, rfl, w149, p150, eb103, rfound145⟩⟩).1
    · rintro Sb58 st57 _ S167 H168 s169 ⟨_, ⟨xplace158, qfound159, usfound160, xa161, xb162, rfl, w164, p165, eb166, rfound163⟩⟩ hm170
      have rone10 := Mo.mo eb166 rone10
      have rother20 := Mo.mo eb166 rother20
      refine q_ret w164 p165 (c_tup (K := K) (w_own (A := (aAll rI)) (j := 0) w164 rfl rfl rfound163)) hm170 ?_
      intro r178 v179 S171 H172 s173 w174 p175 g177 rr180 hm176
      cases run_of_pure hm176
      exact fin _ ⟨S171, w174.g, p175, rr180⟩
end
abbrev t__law_choice_rest : Stmt := top 38
theorem sc__law_choice_rest : FnScope ["n", "k", "p", "products", "found", "below", "a", "b"] ["n", "k", "p", "products"] (defScope t__law_choice_rest) := ⟨rfl, rfl, rfl, by decide +kernel, rfl, by decide +kernel, by decide +kernel⟩
@[irreducible] noncomputable def m__law_choice_rest (p_n : Int) (p_k : Int) (p_p : Int) (p_products : (List Int)) : Option Int :=
bnd (1 : Int) fun found1 =>
(whC many (fun (st11 : Int × Int × Int) k => k (decide ((0 : Int) < st11.2.1))) (fun (st11 : Int × Int × Int) =>
Mir.lft (grd (0 < p_p)) >>= fun _ => bnd (st11.1 % p_p) fun a51 =>
Mir.lft (grd (0 < p_p)) >>= fun _ => bnd (st11.2.1 % p_p) fun b61 =>
if (decide (a51 < b61)) = true then
(bnd (0 : Int) fun r85 => pure (Ctl.ret r85))
else
(Mir.lft (L2.atI p_products b61) >>= fun y138 => Mir.lft (L2.atI p_products (a51 - b61)) >>= fun y139 => Mir.lft (grd (Sm y138 ∧ Sm y139)) >>= fun _ => bnd (y138 * y139) fun below95 =>
(if (decide ((2 : Int) < p_p)) = true then Mir.lft (L2.atI p_products a51) >>= fun y136 => Mir.lft (grd (Sm st11.2.2 ∧ Sm y136)) >>= fun _ => Mir.lft (m__law_power below95 (p_p - (2 : Int)) p_p) >>= fun r137 => Mir.lft (grd (Sm (st11.2.2 * y136) ∧ Sm r137)) >>= fun _ => Mir.lft (grd (0 < p_p)) >>= fun _ => pure (((st11.2.2 * y136) * r137) % p_p) else pure st11.2.2) >>= fun c135 => bnd c135 fun found105 =>
Mir.lft (grd (Dv p_p)) >>= fun _ => bnd (st11.1 / p_p) fun n115 =>
Mir.lft (grd (Dv p_p)) >>= fun _ => bnd (st11.2.1 / p_p) fun k125 =>
pure (Ctl.go (n115, k125, found105)))) (p_n, p_k, found1)) >>= fun o => aft o (fun (st11 : Int × Int × Int) =>
Mir.lft (grd (0 < p_p)) >>= fun _ => bnd (st11.2.2 % p_p) fun r157 => pure r157) (fun r160 => pure r160)
noncomputable abbrev fm__law_choice_rest : (Int × Int × Int × (List Int)) → Option Int := fun a => m__law_choice_rest a.1 a.2.1 a.2.2.1 a.2.2.2
abbrev sp__law_choice_rest (K : PySem.W.Frag) : Sp := spV F0 fm__law_choice_rest (fun _ => (aCons rI (aCons rI (aCons rI (aOne (rL (aAll rI))))))) rI
section
variable {P : Program} {w : World} {K : PySem.W.Frag} {mg : Str → Option Value} {base : Heap}
theorem g__law_choice_rest (T : Tx mg base) (D0 : Dk P w K mg base "_law_power" t__law_power 1 ["a", "k", "m"] (sp__law_power K)) {f : Addr} {fd : FuncData} (F : Fun K "_law_choice_rest" "_law_choice_rest" t__law_choice_rest f fd) : FnG P w K mg base CX0 2 f fd ["n", "k", "p", "products"] (sp__law_choice_rest K) := by
  obtain ⟨f0, fd0, F0, m0, G0, b0⟩ := D0
  refine okG0 F sc__law_choice_rest (fun vs H Q E h => ?_) (fun cdv A outer s0_ H0 vs Q E hr gd h => ?_)
  · obtain ⟨_, _, _, _, _, _, _, _, ⟨_, _, rfl, _, ⟨_, _, rfl, _, ⟨_, _, rfl, _, ⟨_, rfl, _⟩⟩⟩⟩, _⟩ := h
    rfl
  · obtain ⟨_, a, S0, s0, r, s', e0, p0, ⟨_, _, rfl, rfl, ⟨_, _, rfl, rfl, ⟨_, _, rfl, rfl, ⟨v_products, rfl, r_products⟩⟩⟩⟩, hm0, fin0⟩ := h
    obtain ⟨p_n, p_k, p_p, p_products⟩ := a
    have fin : ∀ v {H' : Hp}, (∃ S', Gm (pt0).M S0 H0 S' H' ∧ PotAt pt0 s' S' H' ∧ rI r v S') → Q v H' := fun v {H'} ⟨S', h1, h2, h3⟩ => fin0 v S' H' h1 h2 h3
    have w0 : Wd pt0 S0 H0 S0 H0 [] := Wd.start e0
    have hm0 : Mir.run (m__law_choice_rest p_n p_k p_p p_products) s0 = some (r, s') := hm0
    unfold m__law_choice_rest at hm0
    have sc := sc__law_choice_rest
    refine ⟨_, pss_cons (ps_set (i := 4) sc.nd rfl (by first | exact Or.inl rfl | exact Or.inr rfl) (pe_int)) (pss_cons (ps_while PassesOwn.never (pt_cmpR op_gt (pv 1) (pe_int) (nomark _)) (pss_cons (ps_par (i := 6) (j := 7) rfl sc.nd rfl rfl (by decide) rfl rfl (pa_cons (pe_op op_mod (pe_callTy call_int1 (by rfl) T.n_int (by decide +kernel) (pa_cons (pv 0) pa_nil)) (pv 2)) (pa_cons (pe_op op_mod (pe_callTy call_int1 (by rfl) T.n_int (by decide +kernel) (pa_cons (pv 1) pa_nil)) (pv 2)) (pa_nil))) (by rfl)) (pss_cons (ps_if (pt_cmpR op_gt (pv 7) (pv 6) (nomark _)) (pss_cons (ps_ret (pe_int)) (pss_nil)) (pss_nil)) (pss_cons (ps_set (i := 5) sc.nd rfl (by first | exact Or.inl rfl | exact Or.inr rfl) (pe_op op_mulX (pe_ix (k_ixL K) (pv 3) (pv 7) (fun _ _ => rfl)) (pe_ix (k_ixL K) (pv 3) (pe_op op_sub (pv 6) (pv 7)) (fun _ _ => rfl)))) (pss_cons (ps_set (i := 4) sc.nd rfl (by first | exact Or.inl rfl | exact Or.inr rfl) (pe_ifExp (pt_cmpR op_gt (pv 2) (pe_int) (nomark _)) (pe_op op_mod (pe_op op_mulX (pe_op op_mulX (pv 4) (pe_ix (k_ixL K) (pv 3) (pv 6) (fun _ _ => rfl))) (pe_cG G0 (hr.mono (by decide)) gd rfl m0 F0.kp b0 pass0 (pa_cons (pv 5) (pa_cons (pe_op op_sub (pv 2) (pe_int)) (pa_cons (pv 2) (pa_nil)))))) (pv 2)) (pv 4))) (pss_cons (ps_par (i := 0) (j := 1) rfl sc.nd rfl rfl (by decide) rfl rfl (pa_cons (pe_op op_fdivW (pv 0) (pv 2)) (pa_cons (pe_op op_fdivW (pv 1) (pv 2)) (pa_nil))) (by rfl)) (pss_nil))))))) (pss_cons (ps_ret (pe_op op_mod (pv 4) (pv 2))) (pss_nil))), ?_⟩
    refine q_set (fun v => [some (.int p_n), some (.int p_k), some (.int p_p), some v_products, some v, none, none, none]) (fun _ => rfl) w0 p0 e_cI hm0 ?_
    intro found1 vfound9 S2 H3 s4 w5 p6 g8 rfound10 hm7
    cases (show vfound9 = .int found1 from rfound10)
    have r_products := Mo.mo g8.s r_products
    refine q_whC (p := pt0) (ρ := Int) (fun st11 σ S' H' s' => ∃ (xbelow_ : Option V) (xa_ : Option V) (xb_ : Option V), σ = [some (.int st11.1), some (.int st11.2.1), some (.int p_p), some v_products, some (.int st11.2.2), xbelow_, xa_, xb_] ∧ Wd pt0 S0 H0 S' H' [] ∧ PotAt pt0 s' S' H' ∧ Ex S2 S') (fun r v H' s' => ∃ S', Gm (pt0).M S0 H0 S' H' ∧ PotAt pt0 s' S' H' ∧ rI r v S') ⟨_, _, _, rfl, w5, p6, Ex.rf⟩ hm7 ?_ ?_ ?_ ?_ ?_
    · rintro st11 _ S20 H21 s22 ⟨xbelow14, xa15, xb16, rfl, w17, p18, eb19⟩
      have r_products := Mo.mo eb19 r_products
      exact ⟨p18, w17.i, (t_Test (e_gt (e_var (R := rI) rfl rfl) e_cI))⟩
    · rintro st11 _ S29 H30 s31 S32 H33 s34 ⟨xbelow23, xa24, xb25, rfl, w26, p27, eb28⟩ g35 p36
      exact ⟨_, _, _, rfl, w26.go g35, p36, eb28.tr g35.s⟩
    · rintro st11 _ S43 H44 s45 st11_ s2_ D_ ⟨xbelow37, xa38, xb39, rfl, w40, p41, eb42⟩ hm46 nx47 bk48 rt49
      have r_products := Mo.mo eb42 r_products
      refine par_go ?_
      refine x_ev w40 p41 (e_mod (c_int (e_var (R := rI) rfl rfl)) (e_var (R := rI) rfl rfl)) hm46 ?_
      intro a51 va59 S52 H53 s54 w55 p56 g58 ra60 hm57
      cases (show va59 = .int a51 from ra60)
      have r_products := Mo.mo g58.s r_products
      have eb42 := eb42.tr g58.s
      refine x_ev w55 p56 (e_mod (c_int (e_var (R := rI) rfl rfl)) (e_var (R := rI) rfl rfl)) hm57 ?_
      intro b61 vb69 S62 H63 s64 w65 p66 g68 rb70 hm67
      cases (show vb69 = .int b61 from rb70)
      have r_products := Mo.mo g68.s r_products
      have eb42 := eb42.tr g68.s
      refine par_end [some (.int st11.1), some (.int st11.2.1), some (.int p_p), some v_products, some (.int st11.2.2), xbelow37, some (.int a51), some (.int b61)] rfl ?_
      refine q_if w65 p66 (t_Test (e_gt (e_var (R := rI) rfl rfl) (e_var (R := rI) rfl rfl))) hm67 ?_ ?_
      · intro S71 H72 s73 w74 p75 g76 hm77
        have r_products := Mo.mo g76.s r_products
        have eb42 := eb42.tr g76.s
        refine q_ret w74 p75 e_cI hm77 ?_
        intro r85 v86 S78 H79 s80 w81 p82 g84 rr87 hm83
        cases run_of_pure hm83
        exact rt49 _ _ _ rfl ⟨S78, w81.g, p82, rr87⟩
      · intro S88 H89 s90 w91 p92 g93 hm94
        have r_products := Mo.mo g93.s r_products
        have eb42 := eb42.tr g93.s
        refine nx_done ?_
        refine q_set (fun v => [some (.int st11.1), some (.int st11.2.1), some (.int p_p), some v_products, some (.int st11.2.2), some v, some (.int a51), some (.int b61)]) (fun _ => rfl) w91 p92 (e_mul (e_ixL (Ev.rd (e_var rfl r_products)) (e_var (R := rI) rfl rfl)) (e_ixL (Ev.rd (e_var rfl r_products)) (e_sub (e_var (R := rI) rfl rfl) (e_var (R := rI) rfl rfl)))) hm94 ?_
        intro below95 vbelow103 S96 H97 s98 w99 p100 g102 rbelow104 hm101
        cases (show vbelow103 = .int below95 from rbelow104)
        have r_products := Mo.mo g102.s r_products
        have eb42 := eb42.tr g102.s
        refine q_set (fun v => [some (.int st11.1), some (.int st11.2.1), some (.int p_p), some v_products, some v, some (.int below95), some (.int a51), some (.int b61)]) (fun _ => rfl) w99 p100 (e_if (R := rI) (t_Test (e_gt (e_var (R := rI) rfl rfl) e_cI)) (e_mod (e_mul (e_mul (e_var (R := rI) rfl rfl) (e_ixL (Ev.rd (e_var rfl r_products)) (e_var (R := rI) rfl rfl))) (e_call (E := E0) (fm := fm__law_power) (R := rI) (a_cons (e_var (R := rI) rfl rfl) (a_cons (e_sub (e_var (R := rI) rfl rfl) e_cI) (a_one (e_var (R := rI) rfl rfl)))))) (e_var (R := rI) rfl rfl)) (e_var (R := rI) rfl rfl)) hm101 ?_
        intro found105 vfound113 S106 H107 s108 w109 p110 g112 rfound114 hm111
        cases (show vfound113 = .int found105 from rfound114)
        have r_products := Mo.mo g112.s r_products
        have eb42 := eb42.tr g112.s
        refine par_go ?_
        refine x_ev w109 p110 (e_fdiv (e_var (R := rI) rfl rfl) (e_var (R := rI) rfl rfl)) hm111 ?_
        intro n115 vn123 S116 H117 s118 w119 p120 g122 rn124 hm121
        cases (show vn123 = .int n115 from rn124)
        have r_products := Mo.mo g122.s r_products
        have eb42 := eb42.tr g122.s
        refine x_ev w119 p120 (e_fdiv (e_var (R := rI) rfl rfl) (e_var (R := rI) rfl rfl)) hm121 ?_
        intro k125 vk133 S126 H127 s128 w129 p130 g132 rk134 hm131
        cases (show vk133 = .int k125 from rk134)
        have r_products := Mo.mo g132.s r_products
        have eb42 := eb42.tr g132.s
        refine par_end [some (.int n115), some (.int k125), some (.int p_p), some v_products, some (.int found105), some (.int below95), some (.int a51), some (.int b61)] rfl ?_
        cases run_of_pure hm131
        exact (nx47 _ _ _ _ rfl ⟨_, _, _, rfl, w129, p130, eb42⟩).1
    · rintro st11 _ S146 H147 s148 ⟨xbelow140, xa141, xb142, rfl, w143, p144, eb145⟩ hm149
      have hm149 := hm149.elim id id
      have r_products := Mo.mo eb145 r_products
      refine q_ret w143 p144 (e_mod (e_var (R := rI) rfl rfl) (e_var (R := rI) rfl rfl)) hm149 ?_
      intro r157 v158 S150 H151 s152 w153 p154 g156 rr159 hm155
      cases run_of_pure hm155
      exact fin _ ⟨S150, w153.g, p154, rr159⟩
    · intro r160 v161 H' s' hr1 hm1
      cases run_of_pure hm1
      exact fin _ hr1
end
abbrev t__law_draw : Stmt := top 24
theorem sc__law_draw : FnScope ["pot", "many", "great", "turn", "churned", "cell"] ["pot", "many"] (defScope t__law_draw) := ⟨rfl, rfl, rfl, by decide +kernel, rfl, by decide +kernel, by decide +kernel⟩
@[irreducible] noncomputable def m__law_draw (p_many : Int) : PM PotT Int :=
bnd () fun great2 =>
potS >>= fun s12 => if (neG s12) = true then
(popG >>= fun c20 => bnd c20 fun cell21 =>
((if (decide (p_many ≤ cell21)) = true then
(Mir.lft (grd (Dv p_many)) >>= fun _ => potS >>= fun s41 => Mir.lft (grd (s41.great.length < 16000000)) >>= fun _ => potW (fun s => { s with great := (cell21 / p_many) :: s.great }) >>= fun _ => pure ())
else
(pure ())) >>= fun (st31 : Unit) =>
Mir.lft (grd (0 < p_many)) >>= fun _ => bnd (cell21 % p_many) fun r74 => pure r74))
else
(potS >>= fun s84 => potW (fun s => { s with turn := ((PotT.turn s84) + (1 : Int)) }) >>= fun _ =>
potS >>= fun s92 => bnd (PotT.turn s92) fun turn93 =>
potS >>= fun s103 => Mir.lft (grd (Sm (PotT.mix s103) ∧ Sm (48271 : Int))) >>= fun _ => Mir.lft (grd (Sm turn93 ∧ Sm turn93)) >>= fun _ => Mir.lft (grd (Sm (turn93 * turn93) ∧ Sm (17 : Int))) >>= fun _ => Mir.lft (grd (Sm (7919 : Int) ∧ Sm turn93)) >>= fun _ => Mir.lft (grd (0 < (4294967279 : Int))) >>= fun _ => bnd (((((PotT.mix s103) * (48271 : Int)) + ((turn93 * turn93) * (17 : Int))) + ((7919 : Int) * turn93)) % (4294967279 : Int)) fun churned104 =>
Mir.lft (grd (Sm churned104 ∧ Sm (69621 : Int))) >>= fun _ => Mir.lft (grd (Dv (65536 : Int))) >>= fun _ => Mir.lft (grd (0 < (4294967291 : Int))) >>= fun _ => bnd (((churned104 * (69621 : Int)) + (churned104 / (65536 : Int))) % (4294967291 : Int)) fun churned114 =>
potW (fun s => { s with mix := churned114 }) >>= fun _ =>
Mir.lft (grd (Dv (1024 : Int))) >>= fun _ => Mir.lft (grd (0 < p_many)) >>= fun _ => bnd ((churned114 / (1024 : Int)) % p_many) fun r138 => pure r138)
noncomputable abbrev fm__law_draw : (Unit × Int) → PM PotT Int := fun a => m__law_draw a.2
abbrev sp__law_draw (K : PySem.W.Frag) : Sp := spV (fun i => potPt i) fm__law_draw (fun i => (aCons (rP i) (aOne rI))) rI
section
variable {P : Program} {w : World} {K : PySem.W.Frag} {mg : Str → Option Value} {base : Heap}
theorem g__law_draw (T : Tx mg base)  {f : Addr} {fd : FuncData} (F : Fun K "_law_draw" "_law_draw" t__law_draw f fd) : FnG P w K mg base CX0 1 f fd ["pot", "many"] (sp__law_draw K) := by
  refine okG0 F sc__law_draw (fun vs H Q E h => ?_) (fun cdv A outer s0_ H0 vs Q E hr gd h => ?_)
  · obtain ⟨_, _, _, _, _, _, _, _, ⟨_, _, rfl, _, ⟨_, rfl, _⟩⟩, _⟩ := h
    rfl
  · obtain ⟨i, a, S0, s0, r, s', e0, p0, ⟨_, _, rfl, rfl, ⟨_, rfl, rfl⟩⟩, hm0, fin0⟩ := h
    obtain ⟨_, p_many⟩ := a
    have fin : ∀ v {H' : Hp}, (∃ S', Gm ((potPt i)).M S0 H0 S' H' ∧ PotAt (potPt i) s' S' H' ∧ rI r v S') → Q v H' := fun v {H'} ⟨S', h1, h2, h3⟩ => fin0 v S' H' h1 h2 h3
    have w0 : Wd (potPt i) S0 H0 S0 H0 [] := Wd.start e0
    have hm0 : Mir.run (m__law_draw p_many) s0 = some (r, s') := hm0
    unfold m__law_draw at hm0
    have sc := sc__law_draw
    refine ⟨_, pss_cons (ps_set (i := 2) sc.nd rfl (by first | exact Or.inl rfl | exact Or.inr rfl) (pe_dget (hu_of hr) (pv 0) pe_str (fun _ _ => rfl))) (pss_cons (ps_if (pt_cmpR (k_neD K hr) (pv 2) (pe_lst pa_nil) (nomark _)) (pss_cons (ps_set (i := 5) sc.nd rfl (by first | exact Or.inl rfl | exact Or.inr rfl) (pe_bm PySem.F.plainAttrs_list PySem.F.slot_list_pop PySem.F.type_list_pop mt_popAt (pv 2) (pa_cons pe_int pa_nil))) (pss_cons (ps_if (pt_cmpR op_ge (pv 5) (pv 1) (nomark _)) (pss_cons (ps_expr (pe_bm PySem.F.plainAttrs_list PySem.F.slot_list_insert PySem.F.type_list_insert mt_insert (pv 2) (pa_cons pe_int (pa_cons (pe_op op_fdivW (pv 5) (pv 1)) pa_nil)))) (pss_nil)) (pss_nil)) (pss_cons (ps_ret (pe_op op_mod (pe_callTy call_int1 (by rfl) T.n_int (by decide +kernel) (pa_cons (pv 5) pa_nil)) (pv 1))) (pss_nil)))) (pss_nil)) (pss_cons (ps_dput (hu_of hr) (pv 0) pe_str (pe_op op_add (pe_dget (hu_of hr) (pv 0) pe_str (fun _ _ => rfl)) (pe_int)) rfl) (pss_cons (ps_set (i := 3) sc.nd rfl (by first | exact Or.inl rfl | exact Or.inr rfl) (pe_dget (hu_of hr) (pv 0) pe_str (fun _ _ => rfl))) (pss_cons (ps_set (i := 4) sc.nd rfl (by first | exact Or.inl rfl | exact Or.inr rfl) (pe_op op_mod (pe_callTy call_int1 (by rfl) T.n_int (by decide +kernel) (pa_cons (pe_op op_add (pe_op op_add (pe_op op_mulX (pe_dget (hu_of hr) (pv 0) pe_str (fun _ _ => rfl)) (pe_int)) (pe_op op_mulX (pe_op op_mulX (pv 3) (pv 3)) (pe_int))) (pe_op op_mulX (pe_int) (pv 3))) pa_nil)) (pe_int))) (pss_cons (ps_set (i := 4) sc.nd rfl (by first | exact Or.inl rfl | exact Or.inr rfl) (pe_op op_mod (pe_callTy call_int1 (by rfl) T.n_int (by decide +kernel) (pa_cons (pe_op op_add (pe_op op_mulX (pv 4) (pe_int)) (pe_op op_fdivW (pv 4) (pe_int))) pa_nil)) (pe_int))) (pss_cons (ps_dput (hu_of hr) (pv 0) pe_str (pv 4) rfl) (pss_cons (ps_ret (pe_op op_mod (pe_callTy call_int1 (by rfl) T.n_int (by decide +kernel) (pa_cons (pe_op op_fdivW (pv 4) (pe_int)) pa_nil)) (pv 1))) (pss_nil)))))))), ?_⟩
    refine q_set (fun v => [some (.ref i.a), some (.int p_many), some v, none, none, none]) (fun _ => rfl) w0 p0 (dD_G rfl) hm0 ?_
    intro great2 vgreat10 S3 H4 s5 w6 p7 g9 rgreat11 hm8
    refine q_if w6 p7 (t_Test (e_neG (e_var rfl rgreat11))) hm8 ?_ ?_
    · intro S13 H14 s15 w16 p17 g18 hm19
      have rgreat11 := Mo.mo g18.s rgreat11
      refine q_set (fun v => [some (.ref i.a), some (.int p_many), some vgreat10, none, none, some v]) (fun _ => rfl) w16 p17 (e_pop0 (e_var rfl rgreat11)) hm19 ?_
      intro cell21 vcell29 S22 H23 s24 w25 p26 g28 rcell30 hm27
      cases (show vcell29 = .int cell21 from rcell30)
      have rgreat11 := Mo.mo g28.s rgreat11
      refine q_ifj (p := (potPt i)) (fun st31 σ S' H' s' => ∃ (xgreat_ : Option V), σ = [some (.ref i.a), some (.int p_many), xgreat_, none, none, some (.int cell21)] ∧ Wd (potPt i) S0 H0 S' H' [] ∧ PotAt (potPt i) s' S' H' ∧ Ex S22 S') w25 p26 (t_Test (e_ge (e_var (R := rI) rfl rfl) (e_var (R := rI) rfl rfl))) hm27 ?_ ?_ ?_
      · intro S32 H33 s34 st31_ s2_ D_ w35 p36 g37 hm38 nx39
        have rgreat11 := Mo.mo g37.s rgreat11
        have eb40 := g37.s
        refine q_dropE w35 p36 (e_ins0 (e_var rfl rgreat11) (e_fdiv (e_var (R := rI) rfl rfl) (e_var (R := rI) rfl rfl))) hm38 ?_
        intro x49 S42 H43 s44 w45 p46 g48 hm47
        have rgreat11 := Mo.mo g48.s rgreat11
        have eb40 := eb40.tr g48.s
        cases run_of_pure hm47
        exact nx39 _ _ _ ⟨_, rfl, w45, p46, eb40⟩
      · intro S50 H51 s52 st31_ s2_ D_ w53 p54 g55 hm56 nx57
        have rgreat11 := Mo.mo g55.s rgreat11
        have eb58 := g55.s
        cases run_of_pure hm56
        exact nx57 _ _ _ ⟨_, rfl, w53, p54, eb58⟩
      · rintro st31 _ S63 H64 s65 ⟨xgreat59, rfl, w60, p61, eb62⟩ hm66
        refine q_ret w60 p61 (e_mod (c_int (e_var (R := rI) rfl rfl)) (e_var (R := rI) rfl rfl)) hm66 ?_
        intro r74 v75 S67 H68 s69 w70 p71 g73 rr76 hm72
        cases run_of_pure hm72
        exact fin _ ⟨S67, w70.g, p71, rr76⟩
    · intro S77 H78 s79 w80 p81 g82 hm83
      have rgreat11 := Mo.mo g82.s rgreat11
      refine nx_done ?_
      refine qD_T w80 p81 rfl (e_add (dD_T rfl) e_cI) hm83 (by decide) ?_
      intro S85 H86 s87 w88 p89 g91 hm90
      have rgreat11 := Mo.mo g91.s rgreat11
      refine q_set (fun v => [some (.ref i.a), some (.int p_many), some vgreat10, some v, none, none]) (fun _ => rfl) w88 p89 (dD_T rfl) hm90 ?_
      intro turn93 vturn101 S94 H95 s96 w97 p98 g100 rturn102 hm99
      cases (show vturn101 = .int turn93 from rturn102)
      have rgreat11 := Mo.mo g100.s rgreat11
      refine q_set (fun v => [some (.ref i.a), some (.int p_many), some vgreat10, some (.int turn93), some v, none]) (fun _ => rfl) w97 p98 (e_mod (c_int (e_add (e_add (e_mul (dD_S rfl) e_cI) (e_mul (e_mul (e_var (R := rI) rfl rfl) (e_var (R := rI) rfl rfl)) e_cI)) (e_mul e_cI (e_var (R := rI) rfl rfl)))) e_cI) hm99 ?_
      intro churned104 vchurned112 S105 H106 s107 w108 p109 g111 rchurned113 hm110
      cases (show vchurned112 = .int churned104 from rchurned113)
      have rgreat11 := Mo.mo g111.s rgreat11
      refine q_set (fun v => [some (.ref i.a), some (.int p_many), some vgreat10, some (.int turn93), some v, none]) (fun _ => rfl) w108 p109 (e_mod (c_int (e_add (e_mul (e_var (R := rI) rfl rfl) e_cI) (e_fdiv (e_var (R := rI) rfl rfl) e_cI))) e_cI) hm110 ?_
      intro churned114 vchurned122 S115 H116 s117 w118 p119 g121 rchurned123 hm120
      cases (show vchurned122 = .int churned114 from rchurned123)
      have rgreat11 := Mo.mo g121.s rgreat11
      refine qD_S w118 p119 rfl (e_var (R := rI) rfl rfl) hm120 (by decide) (by decide) ?_
      intro S124 H125 s126 w127 p128 g130 hm129
      have rgreat11 := Mo.mo g130.s rgreat11
      refine q_ret w127 p128 (e_mod (c_int (e_fdiv (e_var (R := rI) rfl rfl) e_cI)) (e_var (R := rI) rfl rfl)) hm129 ?_
      intro r138 v139 S131 H132 s133 w134 p135 g137 rr140 hm136
      cases run_of_pure hm136
      exact fin _ ⟨S131, w134.g, p135, rr140⟩
end
abbrev t__law_pick : Stmt := top 25
theorem sc__law_pick : FnScope ["pot", "row"] ["pot", "row"] (defScope t__law_pick) := ⟨rfl, rfl, rfl, by decide +kernel, rfl, by decide +kernel, by decide +kernel⟩
@[irreducible] noncomputable def m__law_pick (p_row : (List Int)) : PM PotT Int :=
m__law_draw (List.length p_row : Int) >>= fun r12 => Mir.lft (L2.atI p_row r12) >>= fun y11 => bnd y11 fun r8 => pure r8
noncomputable abbrev fm__law_pick : (Unit × (List Int)) → PM PotT Int := fun a => m__law_pick a.2
abbrev sp__law_pick (K : PySem.W.Frag) : Sp := spV (fun i => potPt i) fm__law_pick (fun i => (aCons (rP i) (aOne (rL (aAll rI))))) rI
section
variable {P : Program} {w : World} {K : PySem.W.Frag} {mg : Str → Option Value} {base : Heap}
theorem g__law_pick (T : Tx mg base) (D0 : Dk P w K mg base "_law_draw" t__law_draw 1 ["pot", "many"] (sp__law_draw K)) {f : Addr} {fd : FuncData} (F : Fun K "_law_pick" "_law_pick" t__law_pick f fd) : FnG P w K mg base CX0 2 f fd ["pot", "row"] (sp__law_pick K) := by
  obtain ⟨f0, fd0, F0, m0, G0, b0⟩ := D0
  refine okG0 F sc__law_pick (fun vs H Q E h => ?_) (fun cdv A outer s0_ H0 vs Q E hr gd h => ?_)
  · obtain ⟨_, _, _, _, _, _, _, _, ⟨_, _, rfl, _, ⟨_, rfl, _⟩⟩, _⟩ := h
    rfl
  · obtain ⟨i, a, S0, s0, r, s', e0, p0, ⟨_, _, rfl, rfl, ⟨v_row, rfl, r_row⟩⟩, hm0, fin0⟩ := h
    obtain ⟨_, p_row⟩ := a
    have fin : ∀ v {H' : Hp}, (∃ S', Gm ((potPt i)).M S0 H0 S' H' ∧ PotAt (potPt i) s' S' H' ∧ rI r v S') → Q v H' := fun v {H'} ⟨S', h1, h2, h3⟩ => fin0 v S' H' h1 h2 h3
    have w0 : Wd (potPt i) S0 H0 S0 H0 [] := Wd.start e0
    have hm0 : Mir.run (m__law_pick p_row) s0 = some (r, s') := hm0
    unfold m__law_pick at hm0
    have sc := sc__law_pick
    refine ⟨_, pss_cons (ps_ret (pe_ix (k_ixL K) (pv 1) (pe_cG G0 (hr.mono (by decide)) gd rfl m0 F0.kp b0 pass0 (pa_cons (pv 0) (pa_cons (pe_callB (k_len K) (by rfl) T.n_len (by decide +kernel) (pa_cons (pv 1) pa_nil)) (pa_nil)))) (fun _ _ => rfl))) (pss_nil), ?_⟩
    refine q_ret w0 p0 (e_ixL (Ev.rd (e_var rfl r_row)) (e_callP (F := fun i => potPt i) (i := i) (A := fun i => (aCons (rP i) (aOne rI))) (E := E0) (fm := fm__law_draw) (R := rI) (a_cons (e_var (R := rP i) (a := ()) rfl rfl) (a_one (c_lenL (Ev.rd (e_var rfl r_row))))))) hm0 ?_
    intro r8 v9 S1 H2 s3 w4 p5 g7 rr10 hm6
    cases run_of_pure hm6
    exact fin _ ⟨S1, w4.g, p5, rr10⟩
end
abbrev t__law_prime : Stmt := top 34
theorem sc__law_prime : FnScope ["pot", "p"] ["pot"] (defScope t__law_prime) := ⟨rfl, rfl, rfl, by decide +kernel, rfl, by decide +kernel, by decide +kernel⟩
@[irreducible] noncomputable def m__law_prime  : PM PotT Int :=
m__law_draw (998 : Int) >>= fun r74 => Mir.lft (grd (List.length ([(2 : Int), (2 : Int), (3 : Int), (3 : Int), (5 : Int), (7 : Int), (11 : Int), (13 : Int), ((2 : Int) + r74), (997 : Int)] : List Int) ≤ 16000000)) >>= fun _ => m__law_pick ([(2 : Int), (2 : Int), (3 : Int), (3 : Int), (5 : Int), (7 : Int), (11 : Int), (13 : Int), ((2 : Int) + r74), (997 : Int)] : List Int) >>= fun r73 => bnd r73 fun p1 =>
(whS many (fun (st11 : Int) k => Mir.lft (m__law_is_prime st11) >>= fun r72 => k (!r72)) (fun (st11 : Int) =>
bnd (st11 - (1 : Int)) fun p42 =>
pure p42) p1) >>= fun (st11 : Int) =>
bnd st11 fun r66 => pure r66
noncomputable abbrev fm__law_prime : (Unit) → PM PotT Int := fun a => m__law_prime
abbrev sp__law_prime (K : PySem.W.Frag) : Sp := spV (fun i => potPt i) fm__law_prime (fun i => (aOne (rP i))) rI
section
variable {P : Program} {w : World} {K : PySem.W.Frag} {mg : Str → Option Value} {base : Heap}
theorem g__law_prime (T : Tx mg base) (D0 : Dk P w K mg base "_law_pick" t__law_pick 2 ["pot", "row"] (sp__law_pick K)) (D1 : Dk P w K mg base "_law_draw" t__law_draw 1 ["pot", "many"] (sp__law_draw K)) (D2 : Dk P w K mg base "_law_is_prime" t__law_is_prime 1 ["number"] (sp__law_is_prime K)) {f : Addr} {fd : FuncData} (F : Fun K "_law_prime" "_law_prime" t__law_prime f fd) : FnG P w K mg base CX0 3 f fd ["pot"] (sp__law_prime K) := by
  obtain ⟨f0, fd0, F0, m0, G0, b0⟩ := D0
  obtain ⟨f1, fd1, F1, m1, G1, b1⟩ := D1
  obtain ⟨f2, fd2, F2, m2, G2, b2⟩ := D2
  refine okG0 F sc__law_prime (fun vs H Q E h => ?_) (fun cdv A outer s0_ H0 vs Q E hr gd h => ?_)
  · obtain ⟨_, _, _, _, _, _, _, _, ⟨_, rfl, _⟩, _⟩ := h
    rfl
  · obtain ⟨i, p_pot, S0, s0, r, s', e0, p0, ⟨_, rfl, rfl⟩, hm0, fin0⟩ := h
    have fin : ∀ v {H' : Hp}, (∃ S', Gm ((potPt i)).M S0 H0 S' H' ∧ PotAt (potPt i) s' S' H' ∧ rI r v S') → Q v H' := fun v {H'} ⟨S', h1, h2, h3⟩ => fin0 v S' H' h1 h2 h3
    have w0 : Wd (potPt i) S0 H0 S0 H0 [] := Wd.start e0
    have hm0 : Mir.run (m__law_prime ) s0 = some (r, s') := hm0
    unfold m__law_prime at hm0
    have sc := sc__law_prime
    refine ⟨_, pss_cons (ps_set (i := 1) sc.nd rfl (by first | exact Or.inl rfl | exact Or.inr rfl) (pe_cG G0 (hr.mono (by decide)) gd rfl m0 F0.kp b0 pass0 (pa_cons (pv 0) (pa_cons (pe_lst (pa_cons (pe_int) (pa_cons (pe_int) (pa_cons (pe_int) (pa_cons (pe_int) (pa_cons (pe_int) (pa_cons (pe_int) (pa_cons (pe_int) (pa_cons (pe_int) (pa_cons (pe_op op_add (pe_int) (pe_cG G1 (hr.mono (by decide)) gd rfl m1 F1.kp b1 pass0 (pa_cons (pv 0) (pa_cons (pe_int) (pa_nil))))) (pa_cons (pe_int) (pa_nil)))))))))))) (pa_nil))))) (pss_cons (ps_while PassesOwn.never (pt_not (pt_val (pe_cG G2 (hr.mono (by decide)) gd rfl m2 F2.kp b2 pass0 (pa_cons (pv 1) (pa_nil))))) (pss_cons (ps_set (i := 1) sc.nd rfl (by first | exact Or.inl rfl | exact Or.inr rfl) (pe_op op_sub (pv 1) (pe_int))) (pss_nil))) (pss_cons (ps_ret (pv 1)) (pss_nil))), ?_⟩
    refine q_set (fun v => [some (.ref i.a), some v]) (fun _ => rfl) w0 p0 (e_callP (F := fun i => potPt i) (i := i) (A := fun i => (aCons (rP i) (aOne (rL (aAll rI))))) (E := E0) (fm := fm__law_pick) (R := rI) (a_cons (e_var (R := rP i) (a := ()) rfl rfl) (a_one (EvL.frz (l_lstL (a_consL e_cI (a_consL e_cI (a_consL e_cI (a_consL e_cI (a_consL e_cI (a_consL e_cI (a_consL e_cI (a_consL e_cI (a_consL (e_add e_cI (e_callP (F := fun i => potPt i) (i := i) (A := fun i => (aCons (rP i) (aOne rI))) (E := E0) (fm := fm__law_draw) (R := rI) (a_cons (e_var (R := rP i) (a := ()) rfl rfl) (a_one e_cI)))) (a_consL e_cI (a_nilL (R := rI))))))))))))))))) hm0 ?_
    intro p1 vp9 S2 H3 s4 w5 p6 g8 rp10 hm7
    cases (show vp9 = .int p1 from rp10)
    refine q_wh (p := (potPt i)) (fun st11 σ S' H' s' => σ = [some (.ref i.a), some (.int st11)] ∧ Wd (potPt i) S0 H0 S' H' [] ∧ PotAt (potPt i) s' S' H' ∧ Ex S2 S') ⟨rfl, w5, p6, Ex.rf⟩ hm7 ?_ ?_ ?_ ?_
    · rintro st11 _ S17 H18 s19 ⟨rfl, w14, p15, eb16⟩
      exact ⟨p15, w14.i, (t_not (t_B (e_call (E := E0) (fm := fm__law_is_prime) (R := rB) (a_one (e_var (R := rI) rfl rfl)))))⟩
    · rintro st11 _ S23 H24 s25 S26 H27 s28 ⟨rfl, w20, p21, eb22⟩ g29 p30
      exact ⟨rfl, w20.go g29, p30, eb22.tr g29.s⟩
    · rintro st11 _ S34 H35 s36 st11_ s2_ D_ ⟨rfl, w31, p32, eb33⟩ hm37 nx38
      refine q_set (fun v => [some (.ref i.a), some v]) (fun _ => rfl) w31 p32 (e_sub (e_var (R := rI) rfl rfl) e_cI) hm37 ?_
      intro p42 vp50 S43 H44 s45 w46 p47 g49 rp51 hm48
      cases (show vp50 = .int p42 from rp51)
      have eb33 := eb33.tr g49.s
      cases run_of_pure hm48
      exact (nx38 _ _ _ ⟨rfl, w46, p47, eb33⟩).1
    · rintro st11 _ S55 H56 s57 ⟨rfl, w52, p53, eb54⟩ hm58
      refine q_ret w52 p53 (e_var (R := rI) rfl rfl) hm58 ?_
      intro r66 v67 S59 H60 s61 w62 p63 g65 rr68 hm64
      cases run_of_pure hm64
      exact fin _ ⟨S59, w62.g, p63, rr68⟩
end
abbrev t__law_are_rows_right : Stmt := top 39
theorem sc__law_are_rows_right : FnScope ["pot", "n", "primes", "due", "p", "own"] ["pot"] (defScope t__law_are_rows_right) := ⟨rfl, rfl, rfl, by decide +kernel, rfl, by decide +kernel, by decide +kernel⟩
@[irreducible] noncomputable def m__law_are_rows_right  : PM PotT Bool :=
m__law_draw (12 : Int) >>= fun r216 => Mir.lft (grd (List.length ([(12 : Int), (60 : Int), (400 : Int), (if (decide (r216 = (0 : Int))) = true then (2001 : Int) else (30 : Int))] : List Int) ≤ 16000000)) >>= fun _ => m__law_pick ([(12 : Int), (60 : Int), (400 : Int), (if (decide (r216 = (0 : Int))) = true then (2001 : Int) else (30 : Int))] : List Int) >>= fun r215 => m__law_draw r215 >>= fun r214 => bnd r214 fun n1 =>
Mir.lft (m__law_primes_to n1) >>= fun r213 => bnd r213 fun primes11 =>
Mir.lft (grd (List.length primes11 ≤ 16000000)) >>= fun _ => cmp primes11 (fun x21 => Mir.lft (m__law_times n1 x21) >>= fun r25 => pure (some (x21, r25))) >>= fun l212 => bnd l212 fun due26 =>
Mir.lft (m_product_parting n1) >>= fun r209 => Mir.lft (m_product_parting n1) >>= fun r210 => Mir.lft (grd (List.length ([r209, r210] : List (List (Int × Int))) ≤ 16000000)) >>= fun _ => bnd (PyData.list (List.map (fun a => (PyData.tuple (List.map (fun a => (PyData.tuple [(PyData.int a.1), (PyData.int a.2)])) a))) ([r209, r210] : List (List (Int × Int))))) fun d208 => Mir.lft (grd (OkD d208)) >>= fun _ => Mir.lft (grd (List.length ([due26, due26] : List (List (Int × Int))) ≤ 16000000)) >>= fun _ => bnd (PyData.list (List.map (fun a => (PyData.tuple (List.map (fun a => (PyData.tuple [(PyData.int a.1), (PyData.int a.2)])) a))) ([due26, due26] : List (List (Int × Int))))) fun d211 => Mir.lft (grd (OkD d211)) >>= fun _ => Mir.lft (grP (d208 = d211)) >>= fun _ => if false = true then
(bnd false fun r50 => pure r50)
else
(bnd (1 : Int) fun due60 =>
(lpS primes11 (fun (x72 : Int) (st70 : Int) =>
bnd x72 fun own114 =>
(whS many (fun (st124 : Int) k => Mir.lft (grd (Sm st124 ∧ Sm x72)) >>= fun _ => k (decide ((st124 * x72) ≤ n1))) (fun (st124 : Int) =>
Mir.lft (grd (Sm st124 ∧ Sm x72)) >>= fun _ => bnd (st124 * x72) fun own155 =>
pure own155) own114) >>= fun (st124 : Int) =>
Mir.lft (grd (Sm st70 ∧ Sm st124)) >>= fun _ => bnd (st70 * st124) fun due172 =>
pure due172) due60) >>= fun (st70 : Int) =>
Mir.lft (m_all_multiple n1) >>= fun r205 => Mir.lft (m_all_multiple n1) >>= fun r206 => Mir.lft (grd (List.length ([r205, r206] : List Int) ≤ 16000000)) >>= fun _ => bnd (PyData.list (List.map PyData.int ([r205, r206] : List Int))) fun d204 => Mir.lft (grd (OkD d204)) >>= fun _ => Mir.lft (grd (List.length ([st70, st70] : List Int) ≤ 16000000)) >>= fun _ => bnd (PyData.list (List.map PyData.int ([st70, st70] : List Int))) fun d207 => Mir.lft (grd (OkD d207)) >>= fun _ => Mir.lft (grP (d204 = d207)) >>= fun _ => bnd true fun r201 => pure r201)
noncomputable abbrev fm__law_are_rows_right : (Unit) → PM PotT Bool := fun a => m__law_are_rows_right
abbrev sp__law_are_rows_right (K : PySem.W.Frag) : Sp := spV (fun i => potPt i) fm__law_are_rows_right (fun i => (aOne (rP i))) rB
section
variable {P : Program} {w : World} {K : PySem.W.Frag} {mg : Str → Option Value} {base : Heap}
theorem g__law_are_rows_right (T : Tx mg base) (D0 : Dk P w K mg base "_law_draw" t__law_draw 1 ["pot", "many"] (sp__law_draw K)) (D1 : Dk P w K mg base "_law_pick" t__law_pick 2 ["pot", "row"] (sp__law_pick K)) (D2 : Dk P w K mg base "_law_primes_to" t__law_primes_to 1 ["most"] (sp__law_primes_to K)) (D3 : Dk P w K mg base "_law_times" t__law_times 1 ["n", "p"] (sp__law_times K)) (D4 : Dk P w K mg base "product_parting" t_product_parting 2 ["n"] (sp_product_parting K)) (D5 : Dk P w K mg base "all_multiple" t_all_multiple 2 ["n"] (sp_all_multiple K)) {f : Addr} {fd : FuncData} (F : Fun K "_law_are_rows_right" "_law_are_rows_right" t__law_are_rows_right f fd) : FnG P w K mg base CX0 3 f fd ["pot"] (sp__law_are_rows_right K) := by
  obtain ⟨f0, fd0, F0, m0, G0, b0⟩ := D0
  obtain ⟨f1, fd1, F1, m1, G1, b1⟩ := D1
  obtain ⟨f2, fd2, F2, m2, G2, b2⟩ := D2
  obtain ⟨f3, fd3, F3, m3, G3, b3⟩ := D3
  obtain ⟨f4, fd4, F4, m4, G4, b4⟩ := D4
  obtain ⟨f5, fd5, F5, m5, G5, b5⟩ := D5
  refine okG0 F sc__law_are_rows_right (fun vs H Q E h => ?_) (fun cdv A outer s0_ H0 vs Q E hr gd h => ?_)
  · obtain ⟨_, _, _, _, _, _, _, _, ⟨_, rfl, _⟩, _⟩ := h
    rfl
  · obtain ⟨i, p_pot, S0, s0, r, s', e0, p0, ⟨_, rfl, rfl⟩, hm0, fin0⟩ := h
    have fin : ∀ v {H' : Hp}, (∃ S', Gm ((potPt i)).M S0 H0 S' H' ∧ PotAt (potPt i) s' S' H' ∧ rB r v S') → Q v H' := fun v {H'} ⟨S', h1, h2, h3⟩ => fin0 v S' H' h1 h2 h3
    have w0 : Wd (potPt i) S0 H0 S0 H0 [] := Wd.start e0
    have hm0 : Mir.run (m__law_are_rows_right ) s0 = some (r, s') := hm0
    unfold m__law_are_rows_right at hm0
    have sc := sc__law_are_rows_right
    refine ⟨_, pss_cons (ps_set (i := 1) sc.nd rfl (by first | exact Or.inl rfl | exact Or.inr rfl) (pe_cG G0 (hr.mono (by decide)) gd rfl m0 F0.kp b0 pass0 (pa_cons (pv 0) (pa_cons (pe_cG G1 (hr.mono (by decide)) gd rfl m1 F1.kp b1 pass0 (pa_cons (pv 0) (pa_cons (pe_lst (pa_cons (pe_int) (pa_cons (pe_int) (pa_cons (pe_int) (pa_cons (pe_ifExp (pt_cmpR op_eq (pe_cG G0 (hr.mono (by decide)) gd rfl m0 F0.kp b0 pass0 (pa_cons (pv 0) (pa_cons (pe_int) (pa_nil)))) (pe_int) (nomark _)) (pe_int) (pe_int)) (pa_nil)))))) (pa_nil)))) (pa_nil))))) (pss_cons (ps_set (i := 2) sc.nd rfl (by first | exact Or.inl rfl | exact Or.inr rfl) (pe_cG G2 (hr.mono (by decide)) gd rfl m2 F2.kp b2 pass0 (pa_cons (pv 1) (pa_nil)))) (pss_cons (ps_set (i := 3) sc.nd rfl (by first | exact Or.inl rfl | exact Or.inr rfl) (pe_callTy (k_tupOf K) (by rfl) T.n_tuple (by decide +kernel) (pa_cons (pe_lc (own := [("p", 4)]) (g := (gName 4)) (tt := tYes) rfl sc.nd (k_pil K (pv 2)) (blkOk_by (N := ["pot", "n", "primes", "due", "p", "own"]) (sc := defScope t__law_are_rows_right) (by decide +kernel)) (fun _ _ _ _ _ => pg_name (i := 4) sc.nd rfl (by first | exact Or.inl rfl | exact Or.inr rfl)) (fun _ _ _ _ _ => pts_nil) (fun _ _ _ _ _ => pe_tup (pa_cons (pv 4) (pa_cons (pe_cG G3 (hr.mono (by decide)) gd rfl m3 F3.kp b3 pass0 (pa_cons (pv 1) (pa_cons (pv 4) (pa_nil)))) (pa_nil))))) pa_nil))) (pss_cons (ps_if (pt_cmpR op_ne (pe_callB (k_repr K hr gd T.nd) (by rfl) T.n_repr (by decide +kernel) (pa_cons (pe_lst (pa_cons (pe_cG G4 (hr.mono (by decide)) gd rfl m4 F4.kp b4 pass0 (pa_cons (pv 1) (pa_nil))) (pa_cons (pe_cGK0 (ks := ["n"]) (ix := [0]) G4 (hr.mono (by decide)) gd rfl m4 F4.kp (Fun.kb F4 (ps := ["n"]) (ks := ["n"]) (n := 0) (ix := [0]) fun _ _ _ _ _ _ us ws h1 h2 => match us, ws, h1, h2 with | [], [_], _, _ => rfl) pass0 (pk_cons (pv 1) (pk_nil))) (pa_nil)))) pa_nil)) (pe_callB (k_repr K hr gd T.nd) (by rfl) T.n_repr (by decide +kernel) (pa_cons (pe_lst (pa_cons (pv 3) (pa_cons (pv 3) (pa_nil)))) pa_nil)) (nomark _)) (pss_cons (ps_ret (pe_bl)) (pss_nil)) (pss_nil)) (pss_cons (ps_set (i := 3) sc.nd rfl (by first | exact Or.inl rfl | exact Or.inr rfl) (pe_int)) (pss_cons (ps_for PassesOwn.never rfl (k_pil K (pv 2)) (pg_name (i := 4) sc.nd rfl (by first | exact Or.inl rfl | exact Or.inr rfl)) (pss_cons (ps_set (i := 5) sc.nd rfl (by first | exact Or.inl rfl | exact Or.inr rfl) (pv 4)) (pss_cons (ps_while PassesOwn.never (pt_cmpR op_le (pe_op op_mulX (pv 5) (pv 4)) (pv 1) (nomark _)) (pss_cons (ps_set (i := 5) sc.nd rfl (by first | exact Or.inl rfl | exact Or.inr rfl) (pe_op op_mulX (pv 5) (pv 4))) (pss_nil))) (pss_cons (ps_set (i := 3) sc.nd rfl (by first | exact Or.inl rfl | exact Or.inr rfl) (pe_op op_mulX (pv 3) (pv 5))) (pss_nil))))) (pss_cons (ps_ret (pe_cmpR op_eq (pe_callB (k_repr K hr gd T.nd) (by rfl) T.n_repr (by decide +kernel) (pa_cons (pe_lst (pa_cons (pe_cG G5 (hr.mono (by decide)) gd rfl m5 F5.kp b5 pass0 (pa_cons (pv 1) (pa_nil))) (pa_cons (pe_cGK0 (ks := ["n"]) (ix := [0]) G5 (hr.mono (by decide)) gd rfl m5 F5.kp (Fun.kb F5 (ps := ["n"]) (ks := ["n"]) (n := 0) (ix := [0]) fun _ _ _ _ _ _ us ws h1 h2 => match us, ws, h1, h2 with | [], [_], _, _ => rfl) pass0 (pk_cons (pv 1) (pk_nil))) (pa_nil)))) pa_nil)) (pe_callB (k_repr K hr gd T.nd) (by rfl) T.n_repr (by decide +kernel) (pa_cons (pe_lst (pa_cons (pv 3) (pa_cons (pv 3) (pa_nil)))) pa_nil)) (nomark _))) (pss_nil))))))), ?_⟩
    refine q_set (fun v => [some (.ref i.a), some v, none, none, none, none]) (fun _ => rfl) w0 p0 (e_callP (F := fun i => potPt i) (i := i) (A := fun i => (aCons (rP i) (aOne rI))) (E := E0) (fm := fm__law_draw) (R := rI) (a_cons (e_var (R := rP i) (a := ()) rfl rfl) (a_one (e_callP (F := fun i => potPt i) (i := i) (A := fun i => (aCons (rP i) (aOne (rL (aAll rI))))) (E := E0) (fm := fm__law_pick) (R := rI) (a_cons (e_var (R := rP i) (a := ()) rfl rfl) (a_one (EvL.frz (l_lstL (a_consL e_cI (a_consL e_cI (a_consL e_cI (a_consL (e_ifT (R := rI) (t_Test (e_eq (e_callP (F := fun i => potPt i) (i := i) (A := fun i => (aCons (rP i) (aOne rI))) (E := E0) (fm := fm__law_draw) (R := rI) (a_cons (e_var (R := rP i) (a := ()) rfl rfl) (a_one e_cI))) e_cI)) e_cI e_cI) (a_nilL (R := rI)))))))))))))) hm0 ?_
    intro n1 vn9 S2 H3 s4 w5 p6 g8 rn10 hm7
    cases (show vn9 = .int n1 from rn10)
    refine q_set (fun v => [some (.ref i.a), some (.int n1), some v, none, none, none]) (fun _ => rfl) w5 p6 (EvL.frz (l_call (E := E0) (fm := fm__law_primes_to) (R := (aAll rI)) (a_one (e_var (R := rI) rfl rfl)))) hm7 ?_
    intro primes11 vprimes19 S12 H13 s14 w15 p16 g18 rprimes20 hm17
    refine q_set (fun v => [some (.ref i.a), some (.int n1), some vprimes19, some v, none, none]) (fun _ => rfl) w15 p16 (c_tup (K := K) (EvL.rd (l_lc1 (γ := (Int × Int)) (vs := [4]) (me := fun x21 k => Mir.lft (m__law_times n1 x21) >>= fun r24 => k (x21, r24)) (R' := (rT K (aCons rI (aOne rI)))) (i_L (K := K) (e_var rfl rprimes20)) ownOk0 (g_nm (R := rI)) (fun x σ' S hp => by obtain ⟨_, rfl, _⟩ := hp; rfl) (fun x21 σ' S1 H1 g22 hp => by have w23 := w15.go g22; obtain ⟨_, rfl, rfl⟩ := hp; have rprimes20 := Mo.mo g22.s rprimes20; exact (e_tup (K := K) (a_cons (e_var (R := rI) rfl rfl) (a_one (e_call (E := E0) (fm := fm__law_times) (R := rI) (a_cons (e_var (R := rI) rfl rfl) (a_one (e_var (R := rI) rfl rfl)))))) (arN_cons arN_one) (by decide))) pm_nm))) hm17 ?_
    intro due26 vdue34 S27 H28 s29 w30 p31 g33 rdue35 hm32
    have rprimes20 := Mo.mo g33.s rprimes20
    refine q_if w30 p31 (t_Test (e_neW (c_repr (EvL.frz (l_lstL (a_consL (e_call (E := E0) (fm := fm_product_parting) (R := (rT K (aAll (rT K (aCons rI (aOne rI)))))) (a_one (e_var (R := rI) rfl rfl))) (a_consL (e_callK (E := E0) (n := 0) (m' := 1) (ix := [0]) (fm := fm_product_parting) (A := (aOne rI)) (A1 := aNil) (A2 := (aOne rI)) (R := (rT K (aAll (rT K (aCons rI (aOne rI)))))) (fun a b => b) a_nil (a_one (e_var (R := rI) rfl rfl)) (fun a b vs zs S h1 h2 => by obtain rfl := h1; obtain ⟨_, rfl, y0⟩ := h2; exact ⟨rfl, rfl, ⟨_, rfl, y0⟩⟩)) (a_nilL (R := (rT K (aAll (rT K (aCons rI (aOne rI))))))))))) (d_L (ds_all (d_T (ds_all (d_T (ds_cons d_I (ds_one d_I)))))))) (c_repr (EvL.frz (l_lstL (a_consL (e_var rfl rdue35) (a_consL (e_var rfl rdue35) (a_nilL (R := (rT K (aAll (rT K (aCons rI (aOne rI))))))))))) (d_L (ds_all (d_T (ds_all (d_T (ds_cons d_I (ds_one d_I)))))))))) hm32 ?_ ?_
    · intro S36 H37 s38 w39 p40 g41 hm42
      have rprimes20 := Mo.mo g41.s rprimes20
      have rdue35 := Mo.mo g41.s rdue35
      refine q_ret w39 p40 e_cB hm42 ?_
      intro r50 v51 S43 H44 s45 w46 p47 g49 rr52 hm48
      cases run_of_pure hm48
      exact fin _ ⟨S43, w46.g, p47, rr52⟩
    · intro S53 H54 s55 w56 p57 g58 hm59
      have rprimes20 := Mo.mo g58.s rprimes20
      have rdue35 := Mo.mo g58.s rdue35
      refine nx_done ?_
      refine q_set (fun v => [some (.ref i.a), some (.int n1), some vprimes19, some v, none, none]) (fun _ => rfl) w56 p57 e_cI hm59 ?_
      intro due60 vdue68 S61 H62 s63 w64 p65 g67 rdue69 hm66
      cases (show vdue68 = .int due60 from rdue69)
      have rprimes20 := Mo.mo g67.s rprimes20
      refine q_for (p := (potPt i)) w64 p65 (i_L (K := K) (e_var rfl rprimes20)) (g_nm (R := rI)) hm66 (fun Sb71 st70 σ S' H' s' => Ex Sb71 S' ∧ (∃ (xp_ : Option V) (xown_ : Option V), σ = [some (.ref i.a), some (.int n1), some vprimes19, some (.int st70), xp_, xown_] ∧ Wd (potPt i) S0 H0 S' H' [] ∧ PotAt (potPt i) s' S' H' ∧ Ex S61 S')) ?_ ?_ ?_ ?_ ?_
      · intro S73 H74 s75 w76 p77 g78
        have rprimes20 := Mo.mo g78.s rprimes20
        exact ⟨Ex.rf, ⟨_, _, rfl, w76, p77, g78.s⟩⟩
      · rintro Sb71 st70 _ S84 H85 s86 ⟨ex87, ⟨xp79, xown80, rfl, w81, p82, eb83⟩⟩
        exact ⟨ex87, w81.i, p82, ownOk0⟩
      · rintro Sb71 st70 _ S93 H94 s95 S96 H97 ⟨ex99, ⟨xp88, xown89, rfl, w90, p91, eb92⟩⟩ g98
        exact ⟨ex99.tr g98.s, _, _, rfl, w90.go (Gm.up g98), PotAt.go p91 g98, eb92.tr g98.s⟩
      · rintro Sb71 x72 st70 _ σ113 S105 H106 s107 st70_ s2_ D_ ⟨ex112, ⟨xp100, xown101, rfl, w102, p103, eb104⟩⟩ hp hm108 nx109
        obtain ⟨_, rfl, rfl⟩ := hp
        have rprimes20 := Mo.mo eb104 rprimes20
        refine q_set (fun v => [some (.ref i.a), some (.int n1), some vprimes19, some (.int st70), some (.int x72), some v]) (fun _ => rfl) w102 p103 (e_var (R := rI) rfl rfl) hm108 ?_
        intro own114 vown122 S115 H116 s117 w118 p119 g121 rown123 hm120
        cases (show vown122 = .int own114 from rown123)
        have rprimes20 := Mo.mo g121.s rprimes20
        have eb104 := eb104.tr g121.s
        have ex112 := ex112.tr g121.s
        refine q_wh (p := (potPt i)) (fun st124 σ S' H' s' => σ = [some (.ref i.a), some (.int n1), some vprimes19, some (.int st70), some (.int x72), some (.int st124)] ∧ Wd (potPt i) S0 H0 S' H' [] ∧ PotAt (potPt i) s' S' H' ∧ Ex S115 S') ⟨rfl, w118, p119, Ex.rf⟩ hm120 ?_ ?_ ?_ ?_
        · rintro st124 _ S130 H131 s132 ⟨rfl, w127, p128, eb129⟩
          have rprimes20 := Mo.mo eb129 rprimes20
          have eb104 := eb104.tr eb129
          have ex112 := ex112.tr eb129
          exact ⟨p128, w127.i, (t_Test (e_le (e_mul (e_var (R := rI) rfl rfl) (e_var (R := rI) rfl rfl)) (e_var (R := rI) rfl rfl)))⟩
        · rintro st124 _ S136 H137 s138 S139 H140 s141 ⟨rfl, w133, p134, eb135⟩ g142 p143
          exact ⟨rfl, w133.go g142, p143, eb135.tr g142.s⟩
        · rintro st124 _ S147 H148 s149 st124_ s2_ D_ ⟨rfl, w144, p145, eb146⟩ hm150 nx151
          have rprimes20 := Mo.mo eb146 rprimes20
          have eb104 := eb104.tr eb146
          have ex112 := ex112.tr eb146
          refine q_set (fun v => [some (.ref i.a), some (.int n1), some vprimes19, some (.int st70), some (.int x72), some v]) (fun _ => rfl) w144 p145 (e_mul (e_var (R := rI) rfl rfl) (e_var (R := rI) rfl rfl)) hm150 ?_
          intro own155 vown163 S156 H157 s158 w159 p160 g162 rown164 hm161
          cases (show vown163 = .int own155 from rown164)
          have rprimes20 := Mo.mo g162.s rprimes20
          have eb104 := eb104.tr g162.s
          have ex112 := ex112.tr g162.s
          have eb146 := eb146.tr g162.s
          cases run_of_pure hm161
          exact (nx151 _ _ _ ⟨rfl, w159, p160, eb146⟩).1
        · rintro st124 _ S168 H169 s170 ⟨rfl, w165, p166, eb167⟩ hm171
          have rprimes20 := Mo.mo eb167 rprimes20
          have eb104 := eb104.tr eb167
          have ex112 := ex112.tr eb167
          refine q_set (fun v => [some (.ref i.a), some (.int n1), some vprimes19, some v, some (.int x72), some (.int st124)]) (fun _ => rfl) w165 p166 (e_mul (e_var (R := rI) rfl rfl) (e_var (R := rI) rfl rfl)) hm171 ?_
          intro due172 vdue180 S173 H174 s175 w176 p177 g179 rdue181 hm178
          cases (show vdue180 = .int due172 from rdue181)
          have rprimes20 := Mo.mo g179.s rprimes20
          have eb104 := eb104.tr g179.s
          have ex112 := ex112.tr g179.s
          cases run_of_pure hm178
          exact (nx109 _ _ _ ⟨ex112, ⟨_, _, rfl, w176, p177, eb104⟩⟩).1
      · rintro Sb71 st70 _ S190 H191 s192 ⟨_, ⟨xp185, xown186, rfl, w187, p188, eb189⟩⟩ hm193
        have rprimes20 := Mo.mo eb189 rprimes20
        refine q_ret w187 p188 (e_eqW (c_repr (EvL.frz (l_lstL (a_consL (e_call (E := E0) (fm := fm_all_multiple) (R := rI) (a_one (e_var (R := rI) rfl rfl))) (a_consL (e_callK (E := E0) (n := 0) (m' := 1) (ix := [0]) (fm := fm_all_multiple) (A := (aOne rI)) (A1 := aNil) (A2 := (aOne rI)) (R := rI) (fun a b => b) a_nil (a_one (e_var (R := rI) rfl rfl)) (fun a b vs zs S h1 h2 => by obtain rfl := h1; obtain ⟨_, rfl, y0⟩ := h2; exact ⟨rfl, rfl, ⟨_, rfl, y0⟩⟩)) (a_nilL (R := rI)))))) (d_L (ds_all d_I))) (c_repr (EvL.frz (l_lstL (a_consL (e_var (R := rI) rfl rfl) (a_consL (e_var (R := rI) rfl rfl) (a_nilL (R := rI)))))) (d_L (ds_all d_I)))) hm193 ?_
        intro r201 v202 S194 H195 s196 w197 p198 g200 rr203 hm199
        cases run_of_pure hm199
        exact fin _ ⟨S194, w197.g, p198, rr203⟩
end
abbrev t__law_pot : Stmt := top 23
theorem sc__law_pot : FnScope ["script", "cell", "cells", "stirred"] ["script"] (defScope t__law_pot) := ⟨rfl, rfl, rfl, by decide +kernel, rfl, by decide +kernel, by decide +kernel⟩
@[irreducible] noncomputable def m__law_pot (p_script : List Int) : Option PotT :=
Mir.lft (grd (List.length (cut p_script none (some (61 : Int))) ≤ 16000000)) >>= fun _ => cmp (cut p_script none (some (61 : Int))) (fun x1 => Mir.lft (grd (Sm (2 : Int) ∧ Sm (if x1 < 0 then -x1 else x1))) >>= fun _ => pure (some (((2 : Int) * (if x1 < 0 then -x1 else x1)) + (if (decide (x1 < (0 : Int))) = true then (1 : Int) else 0)))) >>= fun l96 => bnd l96 fun cells4 =>
Mir.lft (grd (Sm (3 : Int) ∧ Sm (List.length p_script : Int))) >>= fun _ => bnd ((19592 : Int) + ((3 : Int) * (List.length p_script : Int))) fun stirred14 =>
(lpS cells4 (fun (x26 : Int) (st24 : Int) =>
Mir.lft (grd (Sm st24 ∧ Sm (69069 : Int))) >>= fun _ => Mir.lft (grd (0 < (4294967291 : Int))) >>= fun _ => bnd ((((st24 * (69069 : Int)) + x26) + (13 : Int)) % (4294967291 : Int)) fun stirred65 =>
pure stirred65) stirred14) >>= fun (st24 : Int) =>
Mir.lft (grd (List.length cells4 ≤ 16000000)) >>= fun _ => cmp cells4 (fun x83 => Mir.lft (grd (Pw (10 : Int) (16 : Int))) >>= fun _ => if (decide (((10 : Int) ^ Int.toNat (16 : Int)) ≤ x83)) = true then pure (some x83) else pure none) >>= fun l95 => bnd (PotT.mk l95 st24 0) fun r93 => pure r93
abbrev sp__law_pot (K : PySem.W.Frag) : Sp := spP potHd m__law_pot K
section
variable {P : Program} {w : World} {K : PySem.W.Frag} {mg : Str → Option Value} {base : Heap}
theorem g__law_pot (T : Tx mg base)  {f : Addr} {fd : FuncData} (F : Fun K "_law_pot" "_law_pot" t__law_pot f fd) : FnG P w K mg base CX0 1 f fd ["script"] (sp__law_pot K) := by
  refine okG0 F sc__law_pot (fun vs H Q E h => ?_) (fun cdv A outer s0_ H0 vs Q E hr gd h => ?_)
  · obtain ⟨_, _, _, _, ⟨_, rfl, _⟩, _⟩ := h
    rfl
  · obtain ⟨p_script, S0, sP, e0, ⟨v_script, rfl, r_script⟩, hf, fin0⟩ := h
    have p0 : PotAt pt0 () S0 H0 := pot0
    have hm0 : Mir.run (m__law_pot p_script) () = some (sP, ()) := by show (m__law_pot p_script).map _ = _; rw [hf]; rfl
    have w0 : Wd pt0 S0 H0 S0 H0 [] := Wd.start e0
    unfold m__law_pot at hm0
    have sc := sc__law_pot
    refine ⟨_, pss_cons (ps_par (i := 2) (j := 3) rfl sc.nd rfl rfl (by decide) rfl rfl (pa_cons (pe_lc (own := [("cell", 1)]) (g := (gName 1)) (tt := tYes) rfl sc.nd (k_pil K (pe_slice (k_sll K) (pv 0) (po_none) (po_some (pe_int)))) (blkOk_by (N := ["script", "cell", "cells", "stirred"]) (sc := defScope t__law_pot) (by decide +kernel)) (fun _ _ _ _ _ => pg_name (i := 1) sc.nd rfl (by first | exact Or.inl rfl | exact Or.inr rfl)) (fun _ _ _ _ _ => pts_nil) (fun _ _ _ _ _ => pe_op op_add (pe_op op_mulX (pe_int) (pe_callB call_abs (by rfl) T.n_abs (by decide +kernel) (pa_cons (pv 1) pa_nil))) (pe_callTy call_int1 (by rfl) T.n_int (by decide +kernel) (pa_cons (pe_cmpR op_lt (pv 1) (pe_int) (nomark _)) pa_nil)))) (pa_cons (pe_op op_add (pe_int) (pe_op op_mulX (pe_int) (pe_callB (k_len K) (by rfl) T.n_len (by decide +kernel) (pa_cons (pv 0) pa_nil)))) (pa_nil))) (by rfl)) (pss_cons (ps_for PassesOwn.never rfl (k_pil K (pv 2)) (pg_name (i := 1) sc.nd rfl (by first | exact Or.inl rfl | exact Or.inr rfl)) (pss_cons (ps_set (i := 3) sc.nd rfl (by first | exact Or.inl rfl | exact Or.inr rfl) (pe_op op_mod (pe_callTy call_int1 (by rfl) T.n_int (by decide +kernel) (pa_cons (pe_op op_add (pe_op op_add (pe_op op_mulX (pv 3) (pe_int)) (pv 1)) (pe_int)) pa_nil)) (pe_int))) (pss_nil))) (pss_cons (ps_ret (pe_disp (pps_cons pe_str (pe_lc (own := [("cell", 1)]) (g := (gName 1)) rfl sc.nd (k_pil K (pv 2)) (blkOk_by (N := ["script", "cell", "cells", "stirred"]) (sc := defScope t__law_pot) (by decide +kernel)) (fun _ _ _ _ _ => pg_name (i := 1) sc.nd rfl (by first | exact Or.inl rfl | exact Or.inr rfl)) (fun _ _ _ _ _ => pts_one (pt_cmpR op_ge (pv 1) (pe_op op_pow (pe_int) (pe_int)) (nomark _))) (fun _ _ _ _ _ => pv 1)) (pps_cons pe_str (pv 3) (pps_cons pe_str pe_int pps_nil))) rfl rfl (by simp) (by decide))) (pss_nil))), ?_⟩
    refine par_go ?_
    refine x_ev w0 p0 (EvL.frz (l_lc1 (γ := Int) (vs := [1]) (me := fun x1 k => Mir.lft (grd (Sm (2 : Int) ∧ Sm (if x1 < 0 then -x1 else x1))) >>= fun _ => k (((2 : Int) * (if x1 < 0 then -x1 else x1)) + (if (decide (x1 < (0 : Int))) = true then (1 : Int) else 0))) (R' := rI) (i_L (K := K) (EvL.frz (l_cutX (e_var rfl r_script) o_no (o_some e_cI)))) ownOk0 (g_nm (R := rI)) (fun x σ' S hp => by obtain ⟨_, rfl, _⟩ := hp; rfl) (fun x1 σ' S1 H1 g2 hp => by have w3 := w0.go g2; obtain ⟨_, rfl, rfl⟩ := hp; have r_script := Mo.mo g2.s r_script; exact (e_add (e_mul e_cI (c_abs (e_var (R := rI) rfl rfl))) (c_intB (e_lt (e_var (R := rI) rfl rfl) e_cI)))) pm_nm)) hm0 ?_
    intro cells4 vcells12 S5 H6 s7 w8 p9 g11 rcells13 hm10
    have r_script := Mo.mo g11.s r_script
    refine x_ev w8 p9 (e_add e_cI (e_mul e_cI (c_lenX (e_var rfl r_script)))) hm10 ?_
    intro stirred14 vstirred22 S15 H16 s17 w18 p19 g21 rstirred23 hm20
    cases (show vstirred22 = .int stirred14 from rstirred23)
    have r_script := Mo.mo g21.s r_script
    have rcells13 := Mo.mo g21.s rcells13
    refine par_end [some v_script, none, some vcells12, some (.int stirred14)] rfl ?_
    refine q_for (p := pt0) w18 p19 (i_L (K := K) (e_var rfl rcells13)) (g_nm (R := rI)) hm20 (fun Sb25 st24 σ S' H' s' => Ex Sb25 S' ∧ (∃ (xcell_ : Option V), σ = [some v_script, xcell_, some vcells12, some (.int st24)] ∧ Wd pt0 S0 H0 S' H' [] ∧ PotAt pt0 s' S' H' ∧ Ex S15 S')) ?_ ?_ ?_ ?_ ?_
    · intro S27 H28 s29 w30 p31 g32
      have r_script := Mo.mo g32.s r_script
      have rcells13 := Mo.mo g32.s rcells13
      exact ⟨Ex.rf, ⟨_, rfl, w30, p31, g32.s⟩⟩
    · rintro Sb25 st24 _ S37 H38 s39 ⟨ex40, ⟨xcell33, rfl, w34, p35, eb36⟩⟩
      exact ⟨ex40, w34.i, p35, ownOk0⟩
    · rintro Sb25 st24 _ S45 H46 s47 S48 H49 ⟨ex51, ⟨xcell41, rfl, w42, p43, eb44⟩⟩ g50
      exact ⟨ex51.tr g50.s, _, rfl, w42.go (Gm.up g50), PotAt.go p43 g50, eb44.tr g50.s⟩
    · rintro Sb25 x26 st24 _ σ64 S56 H57 s58 st24_ s2_ D_ ⟨ex63, ⟨xcell52, rfl, w53, p54, eb55⟩⟩ hp hm59 nx60
      obtain ⟨_, rfl, rfl⟩ := hp
      have r_script := Mo.mo eb55 r_script
      have rcells13 := Mo.mo eb55 rcells13
      refine q_set (fun v => [some v_script, some (.int x26), some vcells12, some v]) (fun _ => rfl) w53 p54 (e_mod (c_int (e_add (e_add (e_mul (e_var (R := rI) rfl rfl) e_cI) (e_var (R := rI) rfl rfl)) e_cI)) e_cI) hm59 ?_
      intro stirred65 vstirred73 S66 H67 s68 w69 p70 g72 rstirred74 hm71
      cases (show vstirred73 = .int stirred65 from rstirred74)
      have r_script := Mo.mo g72.s r_script
      have rcells13 := Mo.mo g72.s rcells13
      have eb55 := eb55.tr g72.s
      have ex63 := ex63.tr g72.s
      cases run_of_pure hm71
      exact (nx60 _ _ _ ⟨ex63, ⟨_, rfl, w69, p70, eb55⟩⟩).1
    · rintro Sb25 st24 _ S79 H80 s81 ⟨_, ⟨xcell75, rfl, w76, p77, eb78⟩⟩ hm82
      have r_script := Mo.mo eb78 r_script
      have rcells13 := Mo.mo eb78 rcells13
      refine q_retP w76 (pot_disp (l_lc (γ := Int) (vs := [1]) (mt := fun x83 k => Mir.lft (grd (Pw (10 : Int) (16 : Int))) >>= fun _ => k (decide (((10 : Int) ^ Int.toNat (16 : Int)) ≤ x83))) (me := fun x83 k => k x83) (R' := rI) (i_L (K := K) (e_var rfl rcells13)) ownOk0 (g_nm (R := rI)) (fun x σ' S hp => by obtain ⟨_, rfl, _⟩ := hp; rfl) (fun x83 σ' S1 H1 g84 hp => by have w85 := w76.go g84; obtain ⟨_, rfl, rfl⟩ := hp; have r_script := Mo.mo g84.s r_script; have rcells13 := Mo.mo g84.s rcells13; exact (t_Test (e_ge (e_var (R := rI) rfl rfl) (e_pow e_cI e_cI)))) (fun x83 σ' S1 H1 g84 hp => by have w85 := w76.go g84; obtain ⟨_, rfl, rfl⟩ := hp; have r_script := Mo.mo g84.s r_script; have rcells13 := Mo.mo g84.s rcells13; exact (e_var (R := rI) rfl rfl)) pm_nm) (e_var (R := rI) rfl rfl) (by decide) (by decide)) hm82 ?_
      intro r93 i94 S86 H87 g88 p89 n90 n91 hm92
      cases run_of_pure hm92
      exact fin0 i94 S86 H87 g88 p89 n90 n91
end
abbrev t_law : Stmt := top 40
theorem sc_law : FnScope ["script", "pot", "turn", "k", "dues", "told", "named", "carried", "times", "many", "own", "base", "due", "p", "n", "products", "product", "x", "again", "q", "often", "place"] ["script"] (defScope t_law) := ⟨rfl, rfl, rfl, by decide +kernel, rfl, by decide +kernel, by decide +kernel⟩
@[irreducible] noncomputable def m_law : PM PotT Bool :=
Mir.lft (grd (RgB (3 : Int))) >>= fun _ => (lpC (ρ := Bool) (rng 0 (3 : Int)) (fun (x3 : Int) (st1 : Unit) =>
m__law_prime >>= fun r757 => bnd r757 fun p90 =>
Mir.lft (grd (Pw (10 : Int) (6 : Int))) >>= fun _ => Mir.lft (grd (Pw (10 : Int) (12 : Int))) >>= fun _ => Mir.lft (grd (List.length ([(12 : Int), (400 : Int), ((10 : Int) ^ Int.toNat (6 : Int)), (((10 : Int) ^ Int.toNat (12 : Int)) + (1 : Int))] : List Int) ≤ 16000000)) >>= fun _ => m__law_pick ([(12 : Int), (400 : Int), ((10 : Int) ^ Int.toNat (6 : Int)), (((10 : Int) ^ Int.toNat (12 : Int)) + (1 : Int))] : List Int) >>= fun r756 => m__law_draw r756 >>= fun r755 => bnd r755 fun n100 =>
m__law_draw (n100 + (1 : Int)) >>= fun r754 => bnd r754 fun k115 =>
Mir.lft (m__law_products p90) >>= fun r753 => bnd r753 fun products125 =>
Mir.lft (grd (Dv (2 : Int))) >>= fun _ => Mir.lft (grd (List.length ([k115, k115, (0 : Int), n100, (n100 / (2 : Int)), (if (1 : Int) < n100 then (1 : Int) else n100)] : List Int) ≤ 16000000)) >>= fun _ => m__law_pick ([k115, k115, (0 : Int), n100, (n100 / (2 : Int)), (if (1 : Int) < n100 then (1 : Int) else n100)] : List Int) >>= fun r752 => bnd r752 fun k135 =>
m__law_draw (3 : Int) >>= fun r751 => ((if ((decide (r751 = (0 : Int))) && (decide ((0 : Int) < n100))) = true then
(Mir.lft (m__law_figures n100 p90) >>= fun r173 => Mir.lft (grd (List.length (enum r173) ≤ 16000000)) >>= fun _ => cmp (enum r173) (fun x155 => m__law_draw (x155.2 + (1 : Int)) >>= fun r160 => Mir.lft (m__law_raised p90 x155.1) >>= fun r161 => Mir.lft (grd (Sm r160 ∧ Sm r161)) >>= fun _ => pure (some (r160 * r161))) >>= fun l172 => bnd (List.sum l172) fun k162 =>
pure k162)
else
(pure k135)) >>= fun (st145 : Int) =>
Mir.lft (m__law_times n100 p90) >>= fun r748 => Mir.lft (m__law_rest n100 p90 products125) >>= fun r749 => Mir.lft (m__law_figures n100 p90) >>= fun r750 => bnd (r748, r749, r750) fun dues190 =>
Mir.lft (m_times_in_product n100 p90) >>= fun r745 => Mir.lft (m_product_rest n100 p90) >>= fun r746 => Mir.lft (m_figures_told n100 p90) >>= fun r747 => bnd (r745, r746, r747) fun told200 =>
Mir.lft (m_times_in_product n100 p90) >>= fun r742 => Mir.lft (m_product_rest n100 p90) >>= fun r743 => Mir.lft (m_figures_told n100 p90) >>= fun r744 => bnd (r742, r743, r744) fun named210 =>
Mir.lft (grd (List.length ([told200, named210] : List (Int × Int × (List Int))) ≤ 16000000)) >>= fun _ => bnd (PyData.list (List.map (fun a => (PyData.list [(PyData.int a.1), (PyData.int a.2.1), (PyData.tuple (List.map PyData.int a.2.2))])) ([told200, named210] : List (Int × Int × (List Int))))) fun d740 => Mir.lft (grd (OkD d740)) >>= fun _ => Mir.lft (grd (List.length ([dues190, dues190] : List (Int × Int × (List Int))) ≤ 16000000)) >>= fun _ => bnd (PyData.list (List.map (fun a => (PyData.list [(PyData.int a.1), (PyData.int a.2.1), (PyData.tuple (List.map PyData.int a.2.2))])) ([dues190, dues190] : List (Int × Int × (List Int))))) fun d741 => Mir.lft (grd (OkD d741)) >>= fun _ => Mir.lft (grP (d740 = d741)) >>= fun _ => if false = true then
(bnd false fun r234 => pure (Ctl.ret r234))
else
(Mir.lft (grd (Sm (dues190.1) ∧ Sm (p90 - (1 : Int)))) >>= fun _ => if (!decide (((dues190.1) * (p90 - (1 : Int))) = (n100 - (List.sum (dues190.2.2))))) = true then
(bnd false fun r258 => pure (Ctl.ret r258))
else
(Mir.lft (m__law_carried n100 st145 p90) >>= fun r739 => bnd r739 fun carried268 =>
Mir.lft (m__law_times n100 p90) >>= fun r736 => Mir.lft (m__law_times st145 p90) >>= fun r737 => Mir.lft (m__law_times (n100 - st145) p90) >>= fun r738 => bnd ((r736 - r737) - r738) fun times278 =>
Mir.lft (m__law_choice_rest n100 st145 p90 products125) >>= fun r735 => bnd (carried268, times278, r735) fun dues288 =>
Mir.lft (m_carried_places n100 st145 p90) >>= fun r732 => Mir.lft (m_times_in_choice n100 st145 p90) >>= fun r733 => Mir.lft (m_choice_rest n100 st145 p90) >>= fun r734 => bnd (r732, r733, r734) fun told298 =>
Mir.lft (m_carried_places n100 st145 p90) >>= fun r729 => Mir.lft (m_times_in_choice n100 st145 p90) >>= fun r730 => Mir.lft (m_choice_rest n100 st145 p90) >>= fun r731 => bnd (r729, r730, r731) fun named308 =>
Mir.lft (grd (List.length ([told298, named308] : List ((List Int) × Int × Int)) ≤ 16000000)) >>= fun _ => bnd (PyData.list (List.map (fun a => (PyData.list [(PyData.tuple (List.map PyData.int a.1)), (PyData.int a.2.1), (PyData.int a.2.2)])) ([told298, named308] : List ((List Int) × Int × Int)))) fun d727 => Mir.lft (grd (OkD d727)) >>= fun _ => Mir.lft (grd (List.length ([dues288, dues288] : List ((List Int) × Int × Int)) ≤ 16000000)) >>= fun _ => bnd (PyData.list (List.map (fun a => (PyData.list [(PyData.tuple (List.map PyData.int a.1)), (PyData.int a.2.1), (PyData.int a.2.2)])) ([dues288, dues288] : List ((List Int) × Int × Int)))) fun d728 => Mir.lft (grd (OkD d728)) >>= fun _ => Mir.lft (grP (d727 = d728)) >>= fun _ => if (false || ((!decide ((List.length carried268 : Int) = times278)) || (!decide ((decide ((dues288.2.2) = (0 : Int))) = (decide ((0 : Int) < times278)))))) = true then
(bnd false fun r332 => pure (Ctl.ret r332))
else
(bnd (1 : Int) fun many342 =>
Mir.lft (m__law_figures n100 p90) >>= fun r726 => (lpS r726 (fun (x354 : Int) (st352 : Int) =>
Mir.lft (grd (Sm st352 ∧ Sm (x354 + (1 : Int)))) >>= fun _ => bnd (st352 * (x354 + (1 : Int))) fun many393 =>
pure many393) many342) >>= fun (st352 : Int) =>
Mir.lft (m_undivided_choices n100 p90) >>= fun r723 => Mir.lft (m_undivided_choices n100 p90) >>= fun r724 => Mir.lft (grd (List.length ([r723, r724] : List Int) ≤ 16000000)) >>= fun _ => bnd (PyData.list (List.map PyData.int ([r723, r724] : List Int))) fun d722 => Mir.lft (grd (OkD d722)) >>= fun _ => Mir.lft (grd (List.length ([st352, st352] : List Int) ≤ 16000000)) >>= fun _ => bnd (PyData.list (List.map PyData.int ([st352, st352] : List Int))) fun d725 => Mir.lft (grd (OkD d725)) >>= fun _ => Mir.lft (grP (d722 = d725)) >>= fun _ => if false = true then
(bnd false fun r425 => pure (Ctl.ret r425))
else
(if (decide (n100 < (60 : Int))) = true then
(bnd (1 : Int) fun product442 =>
Mir.lft (grd (RgB (1 : Int) ∧ RgB (n100 + (1 : Int)))) >>= fun _ => (lpS (rng (1 : Int) (n100 + (1 : Int))) (fun (x454 : Int) (st452 : Int) =>
Mir.lft (grd (Sm st452 ∧ Sm x454)) >>= fun _ => bnd (st452 * x454) fun product493 =>
pure product493) product442) >>= fun (st452 : Int) =>
Mir.lft (m__law_times n100 p90) >>= fun r656 => Mir.lft (grd (RgB r656)) >>= fun _ => (lpS (rng 0 r656) (fun (x513 : Int) (st511 : Int) =>
Mir.lft (grd (Dv p90)) >>= fun _ => bnd (st511 / p90) fun product552 =>
pure product552) st452) >>= fun (st511 : Int) =>
Mir.lft (grd (0 < p90)) >>= fun _ => Mir.lft (m_product_rest n100 p90) >>= fun r653 => (if (!decide ((st511 % p90) = r653)) = true then pure true else Mir.lft (m__law_choose n100 st145) >>= fun r654 => Mir.lft (grd (0 < p90)) >>= fun _ => Mir.lft (m_choice_rest n100 st145 p90) >>= fun r655 => pure (!decide ((r654 % p90) = r655))) >>= fun b652 => if b652 = true then
(bnd false fun r584 => pure (Ctl.ret r584))
else
(Mir.lft (grd (List.length ([(11 : Int), (999 : Int)] : List Int) ≤ 16000000)) >>= fun _ => m__law_pick ([(11 : Int), (999 : Int)] : List Int) >>= fun r651 => m__law_draw r651 >>= fun r650 => bnd ((2 : Int) + r650) fun base594 =>
Mir.lft (m__law_parting base594) >>= fun r649 => Mir.lft (grd (List.length r649 ≤ 16000000)) >>= fun _ => cmp r649 (fun x604 => Mir.lft (m__law_times n100 x604.1) >>= fun r608 => Mir.lft (grd (Dv x604.2)) >>= fun _ => pure (some (r608 / x604.2))) >>= fun l648 => Mir.lft (List.min? l648) >>= fun y647 => bnd y647 fun due609 =>
Mir.lft (m_end_noughts n100 base594) >>= fun r644 => Mir.lft (m_end_noughts n100 base594) >>= fun r645 => Mir.lft (grd (List.length ([r644, r645] : List Int) ≤ 16000000)) >>= fun _ => bnd (PyData.list (List.map PyData.int ([r644, r645] : List Int))) fun d643 => Mir.lft (grd (OkD d643)) >>= fun _ => Mir.lft (grd (List.length ([due609, due609] : List Int) ≤ 16000000)) >>= fun _ => bnd (PyData.list (List.map PyData.int ([due609, due609] : List Int))) fun d646 => Mir.lft (grd (OkD d646)) >>= fun _ => Mir.lft (grP (d643 = d646)) >>= fun _ => if false = true then
(bnd false fun r633 => pure (Ctl.ret r633))
else
(pure (Ctl.go ()))))
else
(Mir.lft (grd (List.length ([(11 : Int), (999 : Int)] : List Int) ≤ 16000000)) >>= fun _ => m__law_pick ([(11 : Int), (999 : Int)] : List Int) >>= fun r721 => m__law_draw r721 >>= fun r720 => bnd ((2 : Int) + r720) fun base664 =>
Mir.lft (m__law_parting base664) >>= fun r719 => Mir.lft (grd (List.length r719 ≤ 16000000)) >>= fun _ => cmp r719 (fun x674 => Mir.lft (m__law_times n100 x674.1) >>= fun r678 => Mir.lft (grd (Dv x674.2)) >>= fun _ => pure (some (r678 / x674.2))) >>= fun l718 => Mir.lft (List.min? l718) >>= fun y717 => bnd y717 fun due679 =>
Mir.lft (m_end_noughts n100 base664) >>= fun r714 => Mir.lft (m_end_noughts n100 base664) >>= fun r715 => Mir.lft (grd (List.length ([r714, r715] : List Int) ≤ 16000000)) >>= fun _ => bnd (PyData.list (List.map PyData.int ([r714, r715] : List Int))) fun d713 => Mir.lft (grd (OkD d713)) >>= fun _ => Mir.lft (grd (List.length ([due679, due679] : List Int) ≤ 16000000)) >>= fun _ => bnd (PyData.list (List.map PyData.int ([due679, due679] : List Int))) fun d716 => Mir.lft (grd (OkD d716)) >>= fun _ => Mir.lft (grP (d713 = d716)) >>= fun _ => if false = true then
(bnd false fun r703 => pure (Ctl.ret r703))
else
(pure (Ctl.go ()))))))))) ()) >>= fun o => aft o (fun (st1 : Unit) =>
m__law_are_rows_right >>= fun r792 => bnd r792 fun r789 => pure r789) (fun r793 => pure r793)
def okLaw (a : List Int) : Prop := ∃ s s1, m__law_pot a = some s ∧ Mir.run m_law s = some (true, s1)
section
variable {P : Program} {w : World} {K : PySem.W.Frag} {mg : Str → Option Value} {base : Heap}
theorem g_law (T : Tx mg base) (D0 : Dk P w K mg base "_law_pot" t__law_pot 1 ["script"] (sp__law_pot K)) (D1 : Dk P w K mg base "_law_prime" t__law_prime 3 ["pot"] (sp__law_prime K)) (D2 : Dk P w K mg base "_law_draw" t__law_draw 1 ["pot", "many"] (sp__law_draw K)) (D3 : Dk P w K mg base "_law_pick" t__law_pick 2 ["pot", "row"] (sp__law_pick K)) (D4 : Dk P w K mg base "_law_products" t__law_products 1 ["p"] (sp__law_products K)) (D5 : Dk P w K mg base "_law_figures" t__law_figures 1 ["n", "p"] (sp__law_figures K)) (D6 : Dk P w K mg base "_law_raised" t__law_raised 1 ["a", "k"] (sp__law_raised K)) (D7 : Dk P w K mg base "_law_times" t__law_times 1 ["n", "p"] (sp__law_times K)) (D8 : Dk P w K mg base "_law_rest" t__law_rest 1 ["n", "p", "products"] (sp__law_rest K)) (D9 : Dk P w K mg base "times_in_product" t_times_in_product 1 ["n", "p"] (sp_times_in_product K)) (D10 : Dk P w K mg base "product_rest" t_product_rest 1 ["n", "p"] (sp_product_rest K)) (D11 : Dk P w K mg base "figures_told" t_figures_told 1 ["n", "p"] (sp_figures_told K)) (D12 : Dk P w K mg base "_law_carried" t__law_carried 2 ["n", "k", "p"] (sp__law_carried K)) (D13 : Dk P w K mg base "_law_choice_rest" t__law_choice_rest 2 ["n", "k", "p", "products"] (sp__law_choice_rest K)) (D14 : Dk P w K mg base "carried_places" t_carried_places 1 ["n", "k", "p"] (sp_carried_places K)) (D15 : Dk P w K mg base "times_in_choice" t_times_in_choice 2 ["n", "k", "p"] (sp_times_in_choice K)) (D16 : Dk P w K mg base "choice_rest" t_choice_rest 2 ["n", "k", "p"] (sp_choice_rest K)) (D17 : Dk P w K mg base "undivided_choices" t_undivided_choices 2 ["n", "p"] (sp_undivided_choices K)) (D18 : Dk P w K mg base "_law_choose" t__law_choose 1 ["n", "k"] (sp__law_choose K)) (D19 : Dk P w K mg base "_law_parting" t__law_parting 1 ["number"] (sp__law_parting K)) (D20 : Dk P w K mg base "end_noughts" t_end_noughts 5 ["n", "base"] (sp_end_noughts K)) (D21 : Dk P w K mg base "_law_are_rows_right" t__law_are_rows_right 3 ["pot"] (sp__law_are_rows_right K)) {f : Addr} {fd : FuncData} (F : Fun K "law" "law" t_law f fd) : FnG P w K mg base CX0 6 f fd ["script"] (spLaw K okLaw) := by
  obtain ⟨f0, fd0, F0, m0, G0, b0⟩ := D0
  obtain ⟨f1, fd1, F1, m1, G1, b1⟩ := D1
  obtain ⟨f2, fd2, F2, m2, G2, b2⟩ := D2
  obtain ⟨f3, fd3, F3, m3, G3, b3⟩ := D3
  obtain ⟨f4, fd4, F4, m4, G4, b4⟩ := D4
  obtain ⟨f5, fd5, F5, m5, G5, b5⟩ := D5
  obtain ⟨f6, fd6, F6, m6, G6, b6⟩ := D6
  obtain ⟨f7, fd7, F7, m7, G7, b7⟩ := D7
  obtain ⟨f8, fd8, F8, m8, G8, b8⟩ := D8
  obtain ⟨f9, fd9, F9, m9, G9, b9⟩ := D9
  obtain ⟨f10, fd10, F10, m10, G10, b10⟩ := D10
  obtain ⟨f11, fd11, F11, m11, G11, b11⟩ := D11
  obtain ⟨f12, fd12, F12, m12, G12, b12⟩ := D12
  obtain ⟨f13, fd13, F13, m13, G13, b13⟩ := D13
  obtain ⟨f14, fd14, F14, m14, G14, b14⟩ := D14
  obtain ⟨f15, fd15, F15, m15, G15, b15⟩ := D15
  obtain ⟨f16, fd16, F16, m16, G16, b16⟩ := D16
  obtain ⟨f17, fd17, F17, m17, G17, b17⟩ := D17
  obtain ⟨f18, fd18, F18, m18, G18, b18⟩ := D18
  obtain ⟨f19, fd19, F19, m19, G19, b19⟩ := D19
  obtain ⟨f20, fd20, F20, m20, G20, b20⟩ := D20
  obtain ⟨f21, fd21, F21, m21, G21, b21⟩ := D21
  refine okG0 F sc_law (fun vs H Q E h => ?_) (fun cdv A outer s0_ H vs Q E hr gd h => ?_)
  · obtain ⟨_, ⟨_, rfl, _⟩, _⟩ := h
    rfl
  · obtain ⟨p_script, ⟨v_script, rfl, r_script⟩, ⟨sP, s', hf, hm1⟩, fin0⟩ := h
    obtain ⟨r, hrt, hm0⟩ : ∃ r, r = true ∧ Mir.run m_law sP = some (r, s') := ⟨true, rfl, hm1⟩
    clear hm1
    unfold m_law at hm0
    have sc := sc_law
    refine ⟨_, pss_cons (ps_set (i := 1) sc.nd rfl (by first | exact Or.inl rfl | exact Or.inr rfl) (pe_cG G0 (hr.mono (by decide)) gd rfl m0 F0.kp b0 pass0 (pa_cons (pv 0) pa_nil))) (pss_cons (ps_for PassesOwn.never rfl (pi_range1 rfl T.n_range (pa_cons (pe_int) pa_nil)) (pg_name (i := 2) sc.nd rfl (by first | exact Or.inl rfl | exact Or.inr rfl)) (pss_cons (ps_asg (pe_tup (pa_cons (pe_cG G1 (hr.mono (by decide)) gd rfl m1 F1.kp b1 pass0 (pa_cons (pv 1) (pa_nil))) (pa_cons (pe_cG G2 (hr.mono (by decide)) gd rfl m2 F2.kp b2 pass0 (pa_cons (pv 1) (pa_cons (pe_cG G3 (hr.mono (by decide)) gd rfl m3 F3.kp b3 pass0 (pa_cons (pv 1) (pa_cons (pe_lst (pa_cons (pe_int) (pa_cons (pe_int) (pa_cons (pe_op op_pow (pe_int) (pe_int)) (pa_cons (pe_op op_add (pe_op op_pow (pe_int) (pe_int)) (pe_int)) (pa_nil)))))) (pa_nil)))) (pa_nil)))) (pa_nil)))) (k_gt K (pgs_cons (pg_name (i := 13) sc.nd rfl (by first | exact Or.inl rfl | exact Or.inr rfl)) (pgs_cons (pg_name (i := 14) sc.nd rfl (by first | exact Or.inl rfl | exact Or.inr rfl)) (pgs_nil))))) (pss_cons (ps_par (i := 3) (j := 15) rfl sc.nd rfl rfl (by decide) rfl rfl (pa_cons (pe_cG G2 (hr.mono (by decide)) gd rfl m2 F2.kp b2 pass0 (pa_cons (pv 1) (pa_cons (pe_op op_add (pv 14) (pe_int)) (pa_nil)))) (pa_cons (pe_cG G4 (hr.mono (by decide)) gd rfl m4 F4.kp b4 pass0 (pa_cons (pv 13) (pa_nil))) (pa_nil))) (by rfl)) (pss_cons (ps_set (i := 3) sc.nd rfl (by first | exact Or.inl rfl | exact Or.inr rfl) (pe_cG G3 (hr.mono (by decide)) gd rfl m3 F3.kp b3 pass0 (pa_cons (pv 1) (pa_cons (pe_lst (pa_cons (pv 3) (pa_cons (pv 3) (pa_cons (pe_int) (pa_cons (pv 14) (pa_cons (pe_op op_fdivW (pv 14) (pe_int)) (pa_cons (pe_callB (call_min2 rfl) (by rfl) T.n_min (by decide +kernel) (pa_cons (pv 14) (pa_cons (pe_int) pa_nil))) (pa_nil)))))))) (pa_nil))))) (pss_cons (ps_if (PW.pt (pw_and (pt_cmpR op_eq (pe_cG G2 (hr.mono (by decide)) gd rfl m2 F2.kp b2 pass0 (pa_cons (pv 1) (pa_cons (pe_int) (pa_nil)))) (pe_int) (nomark _)) (pw_and1 (pt_cmpR op_gt (pv 14) (pe_int) (nomark _))))) (pss_cons (ps_set (i := 3) sc.nd rfl (by first | exact Or.inl rfl | exact Or.inr rfl) (pe_callB (k_sum K) (by rfl) T.n_sum (by decide +kernel) (pa_cons (pe_lc (own := [("place", 21), ("own", 10)]) (g := (gTup K 2 (gCons (gName 21) (gCons (gName 10) gNil)))) (tt := tYes) rfl sc.nd (k_pie K rfl T.n_enumerate (pa_cons (pe_cG G5 (hr.mono (by decide)) gd rfl m5 F5.kp b5 pass0 (pa_cons (pv 14) (pa_cons (pv 13) (pa_nil)))) pa_nil)) (blkOk_by (N := ["script", "pot", "turn", "k", "dues", "told", "named", "carried", "times", "many", "own", "base", "due", "p", "n", "products", "product", "x", "again", "q", "often", "place"]) (sc := defScope t_law) (by decide +kernel)) (fun _ _ _ _ _ => k_gt K (pgs_cons (pg_name (i := 21) sc.nd rfl (by first | exact Or.inl rfl | exact Or.inr rfl)) (pgs_cons (pg_name (i := 10) sc.nd rfl (by first | exact Or.inl rfl | exact Or.inr rfl)) (pgs_nil)))) (fun _ _ _ _ _ => pts_nil) (fun _ _ _ _ _ => pe_op op_mulX (pe_cG G2 (hr.mono (by decide)) gd rfl m2 F2.kp b2 pass0 (pa_cons (pv 1) (pa_cons (pe_op op_add (pv 10) (pe_int)) (pa_nil)))) (pe_cG G6 (hr.mono (by decide)) gd rfl m6 F6.kp b6 pass0 (pa_cons (pv 13) (pa_cons (pv 21) (pa_nil)))))) pa_nil))) (pss_nil)) (pss_nil)) (pss_cons (ps_set (i := 4) sc.nd rfl (by first | exact Or.inl rfl | exact Or.inr rfl) (pe_lst (pa_cons (pe_cG G7 (hr.mono (by decide)) gd rfl m7 F7.kp b7 pass0 (pa_cons (pv 14) (pa_cons (pv 13) (pa_nil)))) (pa_cons (pe_cG G8 (hr.mono (by decide)) gd rfl m8 F8.kp b8 pass0 (pa_cons (pv 14) (pa_cons (pv 13) (pa_cons (pv 15) (pa_nil))))) (pa_cons (pe_callTy (k_tupOf K) (by rfl) T.n_tuple (by decide +kernel) (pa_cons (pe_cG G5 (hr.mono (by decide)) gd rfl m5 F5.kp b5 pass0 (pa_cons (pv 14) (pa_cons (pv 13) (pa_nil)))) pa_nil)) (pa_nil)))))) (pss_cons (ps_set (i := 5) sc.nd rfl (by first | exact Or.inl rfl | exact Or.inr rfl) (pe_lst (pa_cons (pe_cG G9 (hr.mono (by decide)) gd rfl m9 F9.kp b9 pass0 (pa_cons (pv 14) (pa_cons (pv 13) (pa_nil)))) (pa_cons (pe_cG G10 (hr.mono (by decide)) gd rfl m10 F10.kp b10 pass0 (pa_cons (pv 14) (pa_cons (pv 13) (pa_nil)))) (pa_cons (pe_cG G11 (hr.mono (by decide)) gd rfl m11 F11.kp b11 pass0 (pa_cons (pv 14) (pa_cons (pv 13) (pa_nil)))) (pa_nil)))))) (pss_cons (ps_set (i := 6) sc.nd rfl (by first | exact Or.inl rfl | exact Or.inr rfl) (pe_lst (pa_cons (pe_cGK0 (ks := ["p", "n"]) (ix := [1, 0]) G9 (hr.mono (by decide)) gd rfl m9 F9.kp (Fun.kb F9 (ps := ["n", "p"]) (ks := ["p", "n"]) (n := 0) (ix := [1, 0]) fun _ _ _ _ _ _ us ws h1 h2 => match us, ws, h1, h2 with | [], [_, _], _, _ => rfl) pass0 (pk_cons (pv 13) (pk_cons (pv 14) (pk_nil)))) (pa_cons (pe_cGK0 (ks := ["p", "n"]) (ix := [1, 0]) G10 (hr.mono (by decide)) gd rfl m10 F10.kp (Fun.kb F10 (ps := ["n", "p"]) (ks := ["p", "n"]) (n := 0) (ix := [1, 0]) fun _ _ _ _ _ _ us ws h1 h2 => match us, ws, h1, h2 with | [], [_, _], _, _ => rfl) pass0 (pk_cons (pv 13) (pk_cons (pv 14) (pk_nil)))) (pa_cons (pe_cGK0 (ks := ["p", "n"]) (ix := [1, 0]) G11 (hr.mono (by decide)) gd rfl m11 F11.kp (Fun.kb F11 (ps := ["n", "p"]) (ks := ["p", "n"]) (n := 0) (ix := [1, 0]) fun _ _ _ _ _ _ us ws h1 h2 => match us, ws, h1, h2 with | [], [_, _], _, _ => rfl) pass0 (pk_cons (pv 13) (pk_cons (pv 14) (pk_nil)))) (pa_nil)))))) (pss_cons (ps_if (pt_cmpR op_ne (pe_callB (k_repr K hr gd T.nd) (by rfl) T.n_repr (by decide +kernel) (pa_cons (pe_lst (pa_cons (pv 5) (pa_cons (pv 6) (pa_nil)))) pa_nil)) (pe_callB (k_repr K hr gd T.nd) (by rfl) T.n_repr (by decide +kernel) (pa_cons (pe_lst (pa_cons (pv 4) (pa_cons (pv 4) (pa_nil)))) pa_nil)) (nomark _)) (pss_cons (ps_ret (pe_bl)) (pss_nil)) (pss_nil)) (pss_cons (ps_if (pt_cmpR op_ne (pe_op op_mulX (pe_ix (k_ixL K) (pv 4) (pe_int) (fun _ _ => rfl)) (pe_op op_sub (pv 13) (pe_int))) (pe_op op_sub (pv 14) (pe_callB (k_sumT K) (by rfl) T.n_sum (by decide +kernel) (pa_cons (pe_ix (k_ixL K) (pv 4) (pe_int) (fun _ _ => rfl)) pa_nil))) (nomark _)) (pss_cons (ps_ret (pe_bl)) (pss_nil)) (pss_nil)) (pss_cons (ps_set (i := 7) sc.nd rfl (by first | exact Or.inl rfl | exact Or.inr rfl) (pe_cG G12 (hr.mono (by decide)) gd rfl m12 F12.kp b12 pass0 (pa_cons (pv 14) (pa_cons (pv 3) (pa_cons (pv 13) (pa_nil)))))) (pss_cons (ps_set (i := 8) sc.nd rfl (by first | exact Or.inl rfl | exact Or.inr rfl) (pe_op op_sub (pe_op op_sub (pe_cG G7 (hr.mono (by decide)) gd rfl m7 F7.kp b7 pass0 (pa_cons (pv 14) (pa_cons (pv 13) (pa_nil)))) (pe_cG G7 (hr.mono (by decide)) gd rfl m7 F7.kp b7 pass0 (pa_cons (pv 3) (pa_cons (pv 13) (pa_nil))))) (pe_cG G7 (hr.mono (by decide)) gd rfl m7 F7.kp b7 pass0 (pa_cons (pe_op op_sub (pv 14) (pv 3)) (pa_cons (pv 13) (pa_nil)))))) (pss_cons (ps_set (i := 4) sc.nd rfl (by first | exact Or.inl rfl | exact Or.inr rfl) (pe_lst (pa_cons (pv 7) (pa_cons (pv 8) (pa_cons (pe_cG G13 (hr.mono (by decide)) gd rfl m13 F13.kp b13 pass0 (pa_cons (pv 14) (pa_cons (pv 3) (pa_cons (pv 13) (pa_cons (pv 15) (pa_nil)))))) (pa_nil)))))) (pss_cons (ps_set (i := 5) sc.nd rfl (by first | exact Or.inl rfl | exact Or.inr rfl) (pe_lst (pa_cons (pe_cG G14 (hr.mono (by decide)) gd rfl m14 F14.kp b14 pass0 (pa_cons (pv 14) (pa_cons (pv 3) (pa_cons (pv 13) (pa_nil))))) (pa_cons (pe_cG G15 (hr.mono (by decide)) gd rfl m15 F15.kp b15 pass0 (pa_cons (pv 14) (pa_cons (pv 3) (pa_cons (pv 13) (pa_nil))))) (pa_cons (pe_cG G16 (hr.mono (by decide)) gd rfl m16 F16.kp b16 pass0 (pa_cons (pv 14) (pa_cons (pv 3) (pa_cons (pv 13) (pa_nil))))) (pa_nil)))))) (pss_cons (ps_set (i := 6) sc.nd rfl (by first | exact Or.inl rfl | exact Or.inr rfl) (pe_lst (pa_cons (pe_cGK0 (ks := ["p", "k", "n"]) (ix := [2, 1, 0]) G14 (hr.mono (by decide)) gd rfl m14 F14.kp (Fun.kb F14 (ps := ["n", "k", "p"]) (ks := ["p", "k", "n"]) (n := 0) (ix := [2, 1, 0]) fun _ _ _ _ _ _ us ws h1 h2 => match us, ws, h1, h2 with | [], [_, _, _], _, _ => rfl) pass0 (pk_cons (pv 13) (pk_cons (pv 3) (pk_cons (pv 14) (pk_nil))))) (pa_cons (pe_cGK0 (ks := ["p", "k", "n"]) (ix := [2, 1, 0]) G15 (hr.mono (by decide)) gd rfl m15 F15.kp (Fun.kb F15 (ps := ["n", "k", "p"]) (ks := ["p", "k", "n"]) (n := 0) (ix := [2, 1, 0]) fun _ _ _ _ _ _ us ws h1 h2 => match us, ws, h1, h2 with | [], [_, _, _], _, _ => rfl) pass0 (pk_cons (pv 13) (pk_cons (pv 3) (pk_cons (pv 14) (pk_nil))))) (pa_cons (pe_cGK0 (ks := ["p", "k", "n"]) (ix := [2, 1, 0]) G16 (hr.mono (by decide)) gd rfl m16 F16.kp (Fun.kb F16 (ps := ["n", "k", "p"]) (ks := ["p", "k", "n"]) (n := 0) (ix := [2, 1, 0]) fun _ _ _ _ _ _ us ws h1 h2 => match us, ws, h1, h2 with | [], [_, _, _], _, _ => rfl) pass0 (pk_cons (pv 13) (pk_cons (pv 3) (pk_cons (pv 14) (pk_nil))))) (pa_nil)))))) (pss_cons (ps_if (PW.pt (pw_or (pt_cmpR op_ne (pe_callB (k_repr K hr gd T.nd) (by rfl) T.n_repr (by decide +kernel) (pa_cons (pe_lst (pa_cons (pv 5) (pa_cons (pv 6) (pa_nil)))) pa_nil)) (pe_callB (k_repr K hr gd T.nd) (by rfl) T.n_repr (by decide +kernel) (pa_cons (pe_lst (pa_cons (pv 4) (pa_cons (pv 4) (pa_nil)))) pa_nil)) (nomark _)) (pw_or (pt_cmpR op_ne (pe_callB (k_len K) (by rfl) T.n_len (by decide +kernel) (pa_cons (pv 7) pa_nil)) (pv 8) (nomark _)) (pw_or1 (pt_cmpR op_ne (pe_cmpR op_eq (pe_ix (k_ixL K) (pv 4) (pe_int) (fun _ _ => rfl)) (pe_int) (nomark _)) (pe_cmpR op_gt (pv 8) (pe_int) (nomark _)) (nomark _)))))) (pss_cons (ps_ret (pe_bl)) (pss_nil)) (pss_nil)) (pss_cons (ps_set (i := 9) sc.nd rfl (by first | exact Or.inl rfl | exact Or.inr rfl) (pe_int)) (pss_cons (ps_for PassesOwn.never rfl (k_pil K (pe_cG G5 (hr.mono (by decide)) gd rfl m5 F5.kp b5 pass0 (pa_cons (pv 14) (pa_cons (pv 13) (pa_nil))))) (pg_name (i := 10) sc.nd rfl (by first | exact Or.inl rfl | exact Or.inr rfl)) (pss_cons (ps_set (i := 9) sc.nd rfl (by first | exact Or.inl rfl | exact Or.inr rfl) (pe_op op_mulX (pv 9) (pe_op op_add (pv 10) (pe_int)))) (pss_nil))) (pss_cons (ps_if (pt_cmpR op_ne (pe_callB (k_repr K hr gd T.nd) (by rfl) T.n_repr (by decide +kernel) (pa_cons (pe_lst (pa_cons (pe_cG G17 (hr.mono (by decide)) gd rfl m17 F17.kp b17 pass0 (pa_cons (pv 14) (pa_cons (pv 13) (pa_nil)))) (pa_cons (pe_cGK0 (ks := ["p", "n"]) (ix := [1, 0]) G17 (hr.mono (by decide)) gd rfl m17 F17.kp (Fun.kb F17 (ps := ["n", "p"]) (ks := ["p", "n"]) (n := 0) (ix := [1, 0]) fun _ _ _ _ _ _ us ws h1 h2 => match us, ws, h1, h2 with | [], [_, _], _, _ => rfl) pass0 (pk_cons (pv 13) (pk_cons (pv 14) (pk_nil)))) (pa_nil)))) pa_nil)) (pe_callB (k_repr K hr gd T.nd) (by rfl) T.n_repr (by decide +kernel) (pa_cons (pe_lst (pa_cons (pv 9) (pa_cons (pv 9) (pa_nil)))) pa_nil)) (nomark _)) (pss_cons (ps_ret (pe_bl)) (pss_nil)) (pss_nil)) (pss_cons (ps_if (pt_cmpR op_lt (pv 14) (pe_int) (nomark _)) (pss_cons (ps_set (i := 16) sc.nd rfl (by first | exact Or.inl rfl | exact Or.inr rfl) (pe_int)) (pss_cons (ps_for PassesOwn.never rfl (pi_range2 rfl T.n_range (pa_cons (pe_int) (pa_cons (pe_op op_add (pv 14) (pe_int)) pa_nil))) (pg_name (i := 17) sc.nd rfl (by first | exact Or.inl rfl | exact Or.inr rfl)) (pss_cons (ps_set (i := 16) sc.nd rfl (by first | exact Or.inl rfl | exact Or.inr rfl) (pe_op op_mulX (pv 16) (pv 17))) (pss_nil))) (pss_cons (ps_for PassesOwn.never rfl (pi_range1 rfl T.n_range (pa_cons (pe_cG G7 (hr.mono (by decide)) gd rfl m7 F7.kp b7 pass0 (pa_cons (pv 14) (pa_cons (pv 13) (pa_nil)))) pa_nil)) (pg_name (i := 18) sc.nd rfl (by first | exact Or.inl rfl | exact Or.inr rfl)) (pss_cons (ps_set (i := 16) sc.nd rfl (by first | exact Or.inl rfl | exact Or.inr rfl) (pe_op op_fdivW (pv 16) (pv 13))) (pss_nil))) (pss_cons (ps_if (PW.pt (pw_or (pt_cmpR op_ne (pe_op op_mod (pv 16) (pv 13)) (pe_cG G10 (hr.mono (by decide)) gd rfl m10 F10.kp b10 pass0 (pa_cons (pv 14) (pa_cons (pv 13) (pa_nil)))) (nomark _)) (pw_or1 (pt_cmpR op_ne (pe_op op_mod (pe_cG G18 (hr.mono (by decide)) gd rfl m18 F18.kp b18 pass0 (pa_cons (pv 14) (pa_cons (pv 3) (pa_nil)))) (pv 13)) (pe_cG G16 (hr.mono (by decide)) gd rfl m16 F16.kp b16 pass0 (pa_cons (pv 14) (pa_cons (pv 3) (pa_cons (pv 13) (pa_nil))))) (nomark _))))) (pss_cons (ps_ret (pe_bl)) (pss_nil)) (pss_nil)) (pss_nil))))) (pss_nil)) (pss_cons (ps_set (i := 11) sc.nd rfl (by first | exact Or.inl rfl | exact Or.inr rfl) (pe_op op_add (pe_int) (pe_cG G2 (hr.mono (by decide)) gd rfl m2 F2.kp b2 pass0 (pa_cons (pv 1) (pa_cons (pe_cG G3 (hr.mono (by decide)) gd rfl m3 F3.kp b3 pass0 (pa_cons (pv 1) (pa_cons (pe_lst (pa_cons (pe_int) (pa_cons (pe_int) (pa_nil)))) (pa_nil)))) (pa_nil)))))) (pss_cons (ps_set (i := 12) sc.nd rfl (by first | exact Or.inl rfl | exact Or.inr rfl) (pe_callB (k_min K) (by rfl) T.n_min (by decide +kernel) (pa_cons (pe_lc (own := [("q", 19), ("often", 20)]) (g := (gTup K 2 (gCons (gName 19) (gCons (gName 20) gNil)))) (tt := tYes) rfl sc.nd (k_pil K (pe_cG G19 (hr.mono (by decide)) gd rfl m19 F19.kp b19 pass0 (pa_cons (pv 11) (pa_nil)))) (blkOk_by (N := ["script", "pot", "turn", "k", "dues", "told", "named", "carried", "times", "many", "own", "base", "due", "p", "n", "products", "product", "x", "again", "q", "often", "place"]) (sc := defScope t_law) (by decide +kernel)) (fun _ _ _ _ _ => k_gt K (pgs_cons (pg_name (i := 19) sc.nd rfl (by first | exact Or.inl rfl | exact Or.inr rfl)) (pgs_cons (pg_name (i := 20) sc.nd rfl (by first | exact Or.inl rfl | exact Or.inr rfl)) (pgs_nil)))) (fun _ _ _ _ _ => pts_nil) (fun _ _ _ _ _ => pe_op op_fdivW (pe_cG G7 (hr.mono (by decide)) gd rfl m7 F7.kp b7 pass0 (pa_cons (pv 14) (pa_cons (pv 19) (pa_nil)))) (pv 20))) pa_nil))) (pss_cons (ps_if (pt_cmpR op_ne (pe_callB (k_repr K hr gd T.nd) (by rfl) T.n_repr (by decide +kernel) (pa_cons (pe_lst (pa_cons (pe_cG G20 (hr.mono (by decide)) gd rfl m20 F20.kp b20 pass0 (pa_cons (pv 14) (pa_cons (pv 11) (pa_nil)))) (pa_cons (pe_cGK0 (ks := ["base", "n"]) (ix := [1, 0]) G20 (hr.mono (by decide)) gd rfl m20 F20.kp (Fun.kb F20 (ps := ["n", "base"]) (ks := ["base", "n"]) (n := 0) (ix := [1, 0]) fun _ _ _ _ _ _ us ws h1 h2 => match us, ws, h1, h2 with | [], [_, _], _, _ => rfl) pass0 (pk_cons (pv 11) (pk_cons (pv 14) (pk_nil)))) (pa_nil)))) pa_nil)) (pe_callB (k_repr K hr gd T.nd) (by rfl) T.n_repr (by decide +kernel) (pa_cons (pe_lst (pa_cons (pv 12) (pa_cons (pv 12) (pa_nil)))) pa_nil)) (nomark _)) (pss_cons (ps_ret (pe_bl)) (pss_nil)) (pss_nil)) (pss_nil)))))))))))))))))))))))) (pss_cons (ps_ret (pe_cG G21 (hr.mono (by decide)) gd rfl m21 F21.kp b21 pass0 (pa_cons (pv 1) (pa_nil)))) (pss_nil))), ?_⟩
    refine q_pot (hd := potHd) (S := H) Ex.rf rfl r_script hf (fun v => [some v_script, some v, none, none, none, none, none, none, none, none, none, none, none, none, none, none, none, none, none, none, none, none]) (fun _ => rfl) ?_
    intro i S0 H0 w0 p0 g0
    have fin : ∀ v {H' : Hp}, (∃ S', Gm (potPt i).M S0 H0 S' H' ∧ PotAt (potPt i) s' S' H' ∧ rB r v S') → Q v H' := fun v {H'} ⟨S', _, _, h3⟩ => by cases hrt; cases (show v = .bl true from h3); exact fin0 H'
    refine q_forC (p := (potPt i)) (ρ := Bool) w0 p0 (i_R1 e_cI) (g_nm (R := rI)) hm0 (fun Sb2 st1 σ S' H' s' => Ex Sb2 S' ∧ (∃ (xturn_ : Option V) (xk_ : Option V) (xdues_ : Option V) (xtold_ : Option V) (xnamed_ : Option V) (xcarried_ : Option V) (xtimes_ : Option V) (xmany_ : Option V) (xown_ : Option V) (xbase_ : Option V) (xdue_ : Option V) (xp_ : Option V) (xn_ : Option V) (xproducts_ : Option V) (xproduct_ : Option V) (xx_ : Option V) (xagain_ : Option V), σ = [some v_script, some (.ref i.a), xturn_, xk_, xdues_, xtold_, xnamed_, xcarried_, xtimes_, xmany_, xown_, xbase_, xdue_, xp_, xn_, xproducts_, xproduct_, xx_, xagain_, none, none, none] ∧ Wd (potPt i) S0 H0 S' H' [] ∧ PotAt (potPt i) s' S' H' ∧ Ex S0 S')) (fun r v H' s' => ∃ S', Gm ((potPt i)).M S0 H0 S' H' ∧ PotAt (potPt i) s' S' H' ∧ rB r v S') ?_ ?_ ?_ ?_ ?_ ?_
    · intro S4 H5 s6 w7 p8 g9
      exact ⟨Ex.rf, ⟨_, _, _, _, _, _, _, _, _, _, _, _, _, _, _, _, _, rfl, w7, p8, g9.s⟩⟩
    · rintro Sb2 st1 _ S30 H31 s32 ⟨ex33, ⟨xturn10, xk11, xdues12, xtold13, xnamed14, xcarried15, xtimes16, xmany17, xown18, xbase19, xdue20, xp21, xn22, xproducts23, xproduct24, xx25, xagain26, rfl, w27, p28, eb29⟩⟩
      exact ⟨ex33, w27.i, p28, ownOk0⟩
    · rintro Sb2 st1 _ S54 H55 s56 S57 H58 ⟨ex60, ⟨xturn34, xk35, xdues36, xtold37, xnamed38, xcarried39, xtimes40, xmany41, xown42, xbase43, xdue44, xp45, xn46, xproducts47, xproduct48, xx49, xagain50, rfl, w51, p52, eb53⟩⟩ g59
      exact ⟨ex60.tr g59.s, _, _, _, _, _, _, _, _, _, _, _, _, _, _, _, _, _, rfl, w51.go (Gm.up g59), PotAt.go p52 g59, eb53.tr g59.s⟩
    · rintro Sb2 x3 st1 _ σ89 S81 H82 s83 st1_ s2_ D_ ⟨ex88, ⟨xturn61, xk62, xdues63, xtold64, xnamed65, xcarried66, xtimes67, xmany68, xown69, xbase70, xdue71, xp72, xn73, xproducts74, xproduct75, xx76, xagain77, rfl, w78, p79, eb80⟩⟩ hp hm84 nx85 bk86 rt87
      obtain ⟨_, rfl, rfl⟩ := hp
      refine tup2_go ?_
      refine x_ev w78 p79 (e_callP (F := fun i => potPt i) (i := i) (A := fun i => (aOne (rP i))) (E := E0) (fm := fm__law_prime) (R := rI) (a_one (e_var (R := rP i) (a := ()) rfl rfl))) hm84 ?_
      intro p90 vp98 S91 H92 s93 w94 p95 g97 rp99 hm96
      cases (show vp98 = .int p90 from rp99)
      have eb80 := eb80.tr g97.s
      have ex88 := ex88.tr g97.s
      refine x_ev w94 p95 (e_callP (F := fun i => potPt i) (i := i) (A := fun i => (aCons (rP i) (aOne rI))) (E := E0) (fm := fm__law_draw) (R := rI) (a_cons (e_var (R := rP i) (a := ()) rfl rfl) (a_one (e_callP (F := fun i => potPt i) (i := i) (A := fun i => (aCons (rP i) (aOne (rL (aAll rI))))) (E := E0) (fm := fm__law_pick) (R := rI) (a_cons (e_var (R := rP i) (a := ()) rfl rfl) (a_one (EvL.frz (l_lstL (a_consL e_cI (a_consL e_cI (a_consL (e_pow e_cI e_cI) (a_consL (e_add (e_pow e_cI e_cI) e_cI) (a_nilL (R := rI)))))))))))))) hm96 ?_
      intro n100 vn108 S101 H102 s103 w104 p105 g107 rn109 hm106
      cases (show vn108 = .int n100 from rn109)
      have eb80 := eb80.tr g107.s
      have ex88 := ex88.tr g107.s
      refine tup_end (is := [13, 14]) [some v_script, some (.ref i.a), some (.int x3), xk62, xdues63, xtold64, xnamed65, xcarried66, xtimes67, xmany68, xown69, xbase70, xdue71, some (.int p90), some (.int n100), xproducts74, xproduct75, xx76, xagain77, none, none, none] w104 p105 rfl (by simp) rfl ?_
      intro S110 H111 w112 p113 g114
      have eb80 := eb80.tr g114.s
      have ex88 := ex88.tr g114.s
      refine par_go ?_
      refine x_ev w112 p113 (e_callP (F := fun i => potPt i) (i := i) (A := fun i => (aCons (rP i) (aOne rI))) (E := E0) (fm := fm__law_draw) (R := rI) (a_cons (e_var (R := rP i) (a := ()) rfl rfl) (a_one (e_add (e_var (R := rI) rfl rfl) e_cI)))) hm106 ?_
      intro k115 vk123 S116 H117 s118 w119 p120 g122 rk124 hm121
      cases (show vk123 = .int k115 from rk124)
      have eb80 := eb80.tr g122.s
      have ex88 := ex88.tr g122.s
      refine x_ev w119 p120 (EvL.frz (l_call (E := E0) (fm := fm__law_products) (R := (aAll rI)) (a_one (e_var (R := rI) rfl rfl)))) hm121 ?_
      intro products125 vproducts133 S126 H127 s128 w129 p130 g132 rproducts134 hm131
      have eb80 := eb80.tr g132.s
      have ex88 := ex88.tr g132.s
      refine par_end [some v_script, some (.ref i.a), some (.int x3), some (.int k115), xdues63, xtold64, xnamed65, xcarried66, xtimes67, xmany68, xown69, xbase70, xdue71, some (.int p90), some (.int n100), some vproducts133, xproduct75, xx76, xagain77, none, none, none] rfl ?_
      refine q_set (fun v => [some v_script, some (.ref i.a), some (.int x3), some v, xdues63, xtold64, xnamed65, xcarried66, xtimes67, xmany68, xown69, xbase70, xdue71, some (.int p90), some (.int n100), some vproducts133, xproduct75, xx76, xagain77, none, none, none]) (fun _ => rfl) w129 p130 (e_callP (F := fun i => potPt i) (i := i) (A := fun i => (aCons (rP i) (aOne (rL (aAll rI))))) (E := E0) (fm := fm__law_pick) (R := rI) (a_cons (e_var (R := rP i) (a := ()) rfl rfl) (a_one (EvL.frz (l_lstL (a_consL (e_var (R := rI) rfl rfl) (a_consL (e_var (R := rI) rfl rfl) (a_consL e_cI (a_consL (e_var (R := rI) rfl rfl) (a_consL (e_fdiv (e_var (R := rI) rfl rfl) e_cI) (a_consL (c_min2 (e_var (R := rI) rfl rfl) e_cI) (a_nilL (R := rI))))))))))))) hm131 ?_
      intro k135 vk143 S136 H137 s138 w139 p140 g142 rk144 hm141
      cases (show vk143 = .int k135 from rk144)
      have rproducts134 := Mo.mo g142.s rproducts134
      have eb80 := eb80.tr g142.s
      have ex88 := ex88.tr g142.s
      refine q_ifj (p := (potPt i)) (fun st145 σ S' H' s' => σ = [some v_script, some (.ref i.a), some (.int x3), some (.int st145), xdues63, xtold64, xnamed65, xcarried66, xtimes67, xmany68, xown69, xbase70, xdue71, some (.int p90), some (.int n100), some vproducts133, xproduct75, xx76, xagain77, none, none, none] ∧ Wd (potPt i) S0 H0 S' H' [] ∧ PotAt (potPt i) s' S' H' ∧ Ex S136 S') w139 p140 (t_andT (t_Test (e_eq (e_callP (F := fun i => potPt i) (i := i) (A := fun i => (aCons (rP i) (aOne rI))) (E := E0) (fm := fm__law_draw) (R := rI) (a_cons (e_var (R := rP i) (a := ()) rfl rfl) (a_one e_cI))) e_cI)) (t_Test (e_gt (e_var (R := rI) rfl rfl) e_cI))) hm141 ?_ ?_ ?_
      · intro S146 H147 s148 st145_ s2_ D_ w149 p150 g151 hm152 nx153
        have rproducts134 := Mo.mo g151.s rproducts134
        have eb80 := eb80.tr g151.s
        have ex88 := ex88.tr g151.s
        have eb154 := g151.s
        refine q_set (fun v => [some v_script, some (.ref i.a), some (.int x3), some v, xdues63, xtold64, xnamed65, xcarried66, xtimes67, xmany68, xown69, xbase70, xdue71, some (.int p90), some (.int n100), some vproducts133, xproduct75, xx76, xagain77, none, none, none]) (fun _ => rfl) w149 p150 (c_sum (EvL.rd (l_lc1 (γ := Int) (vs := [21, 10]) (me := fun x155 k => m__law_draw (x155.2 + (1 : Int)) >>= fun r158 => Mir.lft (m__law_raised p90 x155.1) >>= fun r159 => Mir.lft (grd (Sm r158 ∧ Sm r159)) >>= fun _ => k (r158 * r159)) (R' := rI) (i_enum (K := K) (EvL.frz (l_call (E := E0) (fm := fm__law_figures) (R := (aAll rI)) (a_cons (e_var (R := rI) rfl rfl) (a_one (e_var (R := rI) rfl rfl)))))) ownOk0 (g_tp (gq_cons (g_nm (R := rI)) (gq_one (g_nm (R := rI))))) (fun x σ' S hp => by obtain ⟨_, ⟨_, rfl, _⟩, ⟨_, rfl, _⟩⟩ := hp; rfl) (fun x155 σ' S1 H1 g156 hp => by have w157 := w149.go g156; obtain ⟨_, ⟨_, rfl, rfl⟩, ⟨_, rfl, rfl⟩⟩ := hp; have rproducts134 := Mo.mo g156.s rproducts134; exact (e_mul (e_callP (F := fun i => potPt i) (i := i) (A := fun i => (aCons (rP i) (aOne rI))) (E := E0) (fm := fm__law_draw) (R := rI) (a_cons (e_var (R := rP i) (a := ()) rfl rfl) (a_one (e_add (e_var (R := rI) rfl rfl) e_cI)))) (e_call (E := E0) (fm := fm__law_raised) (R := rI) (a_cons (e_var (R := rI) rfl rfl) (a_one (e_var (R := rI) rfl rfl)))))) (pm_cons pm_nm pm_nm)))) hm152 ?_
        intro k162 vk170 S163 H164 s165 w166 p167 g169 rk171 hm168
        cases (show vk170 = .int k162 from rk171)
        have rproducts134 := Mo.mo g169.s rproducts134
        have eb80 := eb80.tr g169.s
        have ex88 := ex88.tr g169.s
        have eb154 := eb154.tr g169.s
        cases run_of_pure hm168
        exact nx153 _ _ _ ⟨rfl, w166, p167, eb154⟩
      · intro S174 H175 s176 st145_ s2_ D_ w177 p178 g179 hm180 nx181
        have rproducts134 := Mo.mo g179.s rproducts134
        have eb80 := eb80.tr g179.s
        have ex88 := ex88.tr g179.s
        have eb182 := g179.s
        cases run_of_pure hm180
        exact nx181 _ _ _ ⟨rfl, w177, p178, eb182⟩
      · rintro st145 _ S186 H187 s188 ⟨rfl, w183, p184, eb185⟩ hm189
        have rproducts134 := Mo.mo eb185 rproducts134
        have eb80 := eb80.tr eb185
        have ex88 := ex88.tr eb185
        refine q_set (fun v => [some v_script, some (.ref i.a), some (.int x3), some (.int st145), some v, xtold64, xnamed65, xcarried66, xtimes67, xmany68, xown69, xbase70, xdue71, some (.int p90), some (.int n100), some vproducts133, xproduct75, xx76, xagain77, none, none, none]) (fun _ => rfl) w183 p184 (EvL.frz (l_lst (a_cons (e_call (E := E0) (fm := fm__law_times) (R := rI) (a_cons (e_var (R := rI) rfl rfl) (a_one (e_var (R := rI) rfl rfl)))) (a_cons (e_call (E := E0) (fm := fm__law_rest) (R := rI) (a_cons (e_var (R := rI) rfl rfl) (a_cons (e_var (R := rI) rfl rfl) (a_one (e_var rfl rproducts134))))) (a_one (c_tup (K := K) (EvL.rd (l_call (E := E0) (fm := fm__law_figures) (R := (aAll rI)) (a_cons (e_var (R := rI) rfl rfl) (a_one (e_var (R := rI) rfl rfl))))))))) (arN_cons (arN_cons arN_one)) (by decide))) hm189 ?_
        intro dues190 vdues198 S191 H192 s193 w194 p195 g197 rdues199 hm196
        have rproducts134 := Mo.mo g197.s rproducts134
        have eb80 := eb80.tr g197.s
        have ex88 := ex88.tr g197.s
        refine q_set (fun v => [some v_script, some (.ref i.a), some (.int x3), some (.int st145), some vdues198, some v, xnamed65, xcarried66, xtimes67, xmany68, xown69, xbase70, xdue71, some (.int p90), some (.int n100), some vproducts133, xproduct75, xx76, xagain77, none, none, none]) (fun _ => rfl) w194 p195 (EvL.frz (l_lst (a_cons (e_call (E := E0) (fm := fm_times_in_product) (R := rI) (a_cons (e_var (R := rI) rfl rfl) (a_one (e_var (R := rI) rfl rfl)))) (a_cons (e_call (E := E0) (fm := fm_product_rest) (R := rI) (a_cons (e_var (R := rI) rfl rfl) (a_one (e_var (R := rI) rfl rfl)))) (a_one (e_call (E := E0) (fm := fm_figures_told) (R := (rT K (aAll rI))) (a_cons (e_var (R := rI) rfl rfl) (a_one (e_var (R := rI) rfl rfl))))))) (arN_cons (arN_cons arN_one)) (by decide))) hm196 ?_
        intro told200 vtold208 S201 H202 s203 w204 p205 g207 rtold209 hm206
        have rproducts134 := Mo.mo g207.s rproducts134
        have rdues199 := Mo.mo g207.s rdues199
        have eb80 := eb80.tr g207.s
        have ex88 := ex88.tr g207.s
        refine q_set (fun v => [some v_script, some (.ref i.a), some (.int x3), some (.int st145), some vdues198, some vtold208, some v, xcarried66, xtimes67, xmany68, xown69, xbase70, xdue71, some (.int p90), some (.int n100), some vproducts133, xproduct75, xx76, xagain77, none, none, none]) (fun _ => rfl) w204 p205 (EvL.frz (l_lst (a_cons (e_callK (E := E0) (n := 0) (m' := 2) (ix := [1, 0]) (fm := fm_times_in_product) (A := (aCons rI (aOne rI))) (A1 := aNil) (A2 := (aCons rI (aOne rI))) (R := rI) (fun a b => (b.2, b.1)) a_nil (a_cons (e_var (R := rI) rfl rfl) (a_one (e_var (R := rI) rfl rfl))) (fun a b vs zs S h1 h2 => by obtain rfl := h1; obtain ⟨_, _, rfl, y0, ⟨_, rfl, y1⟩⟩ := h2; exact ⟨rfl, rfl, ⟨_, _, rfl, y1, ⟨_, rfl, y0⟩⟩⟩)) (a_cons (e_callK (E := E0) (n := 0) (m' := 2) (ix := [1, 0]) (fm := fm_product_rest) (A := (aCons rI (aOne rI))) (A1 := aNil) (A2 := (aCons rI (aOne rI))) (R := rI) (fun a b => (b.2, b.1)) a_nil (a_cons (e_var (R := rI) rfl rfl) (a_one (e_var (R := rI) rfl rfl))) (fun a b vs zs S h1 h2 => by obtain rfl := h1; obtain ⟨_, _, rfl, y0, ⟨_, rfl, y1⟩⟩ := h2; exact ⟨rfl, rfl, ⟨_, _, rfl, y1, ⟨_, rfl, y0⟩⟩⟩)) (a_one (e_callK (E := E0) (n := 0) (m' := 2) (ix := [1, 0]) (fm := fm_figures_told) (A := (aCons rI (aOne rI))) (A1 := aNil) (A2 := (aCons rI (aOne rI))) (R := (rT K (aAll rI))) (fun a b => (b.2, b.1)) a_nil (a_cons (e_var (R := rI) rfl rfl) (a_one (e_var (R := rI) rfl rfl))) (fun a b vs zs S h1 h2 => by obtain rfl := h1; obtain ⟨_, _, rfl, y0, ⟨_, rfl, y1⟩⟩ := h2; exact ⟨rfl, rfl, ⟨_, _, rfl, y1, ⟨_, rfl, y0⟩⟩⟩))))) (arN_cons (arN_cons arN_one)) (by decide))) hm206 ?_
        intro named210 vnamed218 S211 H212 s213 w214 p215 g217 rnamed219 hm216
        have rproducts134 := Mo.mo g217.s rproducts134
        have rdues199 := Mo.mo g217.s rdues199
        have rtold209 := Mo.mo g217.s rtold209
        have eb80 := eb80.tr g217.s
        have ex88 := ex88.tr g217.s
        refine q_if w214 p215 (t_Test (e_neW (c_repr (EvL.frz (l_lstL (a_consL (e_var rfl rtold209) (a_consL (e_var rfl rnamed219) (a_nilL (R := (rL (aCons rI (aCons rI (aOne (rT K (aAll rI)))))))))))) (d_L (ds_all (d_L (ds_cons d_I (ds_cons d_I (ds_one (d_T (ds_all d_I))))))))) (c_repr (EvL.frz (l_lstL (a_consL (e_var rfl rdues199) (a_consL (e_var rfl rdues199) (a_nilL (R := (rL (aCons rI (aCons rI (aOne (rT K (aAll rI)))))))))))) (d_L (ds_all (d_L (ds_cons d_I (ds_cons d_I (ds_one (d_T (ds_all d_I))))))))))) hm216 ?_ ?_
        · intro S220 H221 s222 w223 p224 g225 hm226
          have rproducts134 := Mo.mo g225.s rproducts134
          have rdues199 := Mo.mo g225.s rdues199
          have rtold209 := Mo.mo g225.s rtold209
          have rnamed219 := Mo.mo g225.s rnamed219
          have eb80 := eb80.tr g225.s
          have ex88 := ex88.tr g225.s
          refine q_ret w223 p224 e_cB hm226 ?_
          intro r234 v235 S227 H228 s229 w230 p231 g233 rr236 hm232
          cases run_of_pure hm232
          exact rt87 _ _ _ rfl ⟨S227, w230.g, p231, rr236⟩
        · intro S237 H238 s239 w240 p241 g242 hm243
          have rproducts134 := Mo.mo g242.s rproducts134
          have rdues199 := Mo.mo g242.s rdues199
          have rtold209 := Mo.mo g242.s rtold209
          have rnamed219 := Mo.mo g242.s rnamed219
          have eb80 := eb80.tr g242.s
          have ex88 := ex88.tr g242.s
          refine nx_done ?_
          refine q_if w240 p241 (t_Test (e_ne (e_mul (e_ixCL (n := 0) (A := (aCons rI (aCons rI (aOne (rT K (aAll rI)))))) (R := rI) (f := fun a => a.1) (Ev.rd (e_var rfl rdues199)) rfl (fun a vs S h => by obtain ⟨_, _, rfl, h0, ⟨_, _, rfl, h1, ⟨_, rfl, h2⟩⟩⟩ := h; exact ⟨_, rfl, h0⟩)) (e_sub (e_var (R := rI) rfl rfl) e_cI)) (e_sub (e_var (R := rI) rfl rfl) (c_sumT (e_ixCL (n := 2) (A := (aCons rI (aCons rI (aOne (rT K (aAll rI)))))) (R := (rT K (aAll rI))) (f := fun a => a.2.2) (Ev.rd (e_var rfl rdues199)) rfl (fun a vs S h => by obtain ⟨_, _, rfl, h0, ⟨_, _, rfl, h1, ⟨_, rfl, h2⟩⟩⟩ := h; exact ⟨_, rfl, h2⟩)))))) hm243 ?_ ?_
          · intro S244 H245 s246 w247 p248 g249 hm250
            have rproducts134 := Mo.mo g249.s rproducts134
            have rdues199 := Mo.mo g249.s rdues199
            have rtold209 := Mo.mo g249.s rtold209
            have rnamed219 := Mo.mo g249.s rnamed219
            have eb80 := eb80.tr g249.s
            have ex88 := ex88.tr g249.s
            refine q_ret w247 p248 e_cB hm250 ?_
            intro r258 v259 S251 H252 s253 w254 p255 g257 rr260 hm256
            cases run_of_pure hm256
            exact rt87 _ _ _ rfl ⟨S251, w254.g, p255, rr260⟩
          · intro S261 H262 s263 w264 p265 g266 hm267
            have rproducts134 := Mo.mo g266.s rproducts134
            have rdues199 := Mo.mo g266.s rdues199
            have rtold209 := Mo.mo g266.s rtold209
            have rnamed219 := Mo.mo g266.s rnamed219
            have eb80 := eb80.tr g266.s
            have ex88 := ex88.tr g266.s
            refine nx_done ?_
            refine q_set (fun v => [some v_script, some (.ref i.a), some (.int x3), some (.int st145), some vdues198, some vtold208, some vnamed218, some v, xtimes67, xmany68, xown69, xbase70, xdue71, some (.int p90), some (.int n100), some vproducts133, xproduct75, xx76, xagain77, none, none, none]) (fun _ => rfl) w264 p265 (e_call (E := E0) (fm := fm__law_carried) (R := (rT K (aAll rI))) (a_cons (e_var (R := rI) rfl rfl) (a_cons (e_var (R := rI) rfl rfl) (a_one (e_var (R := rI) rfl rfl))))) hm267 ?_
            intro carried268 vcarried276 S269 H270 s271 w272 p273 g275 rcarried277 hm274
            have rproducts134 := Mo.mo g275.s rproducts134
            have rdues199 := Mo.mo g275.s rdues199
            have rtold209 := Mo.mo g275.s rtold209
            have rnamed219 := Mo.mo g275.s rnamed219
            have eb80 := eb80.tr g275.s
            have ex88 := ex88.tr g275.s
            refine q_set (fun v => [some v_script, some (.ref i.a), some (.int x3), some (.int st145), some vdues198, some vtold208, some vnamed218, some vcarried276, some v, xmany68, xown69, xbase70, xdue71, some (.int p90), some (.int n100), some vproducts133, xproduct75, xx76, xagain77, none, none, none]) (fun _ => rfl) w272 p273 (e_sub (e_sub (e_call (E := E0) (fm := fm__law_times) (R := rI) (a_cons (e_var (R := rI) rfl rfl) (a_one (e_var (R := rI) rfl rfl)))) (e_call (E := E0) (fm := fm__law_times) (R := rI) (a_cons (e_var (R := rI) rfl rfl) (a_one (e_var (R := rI) rfl rfl))))) (e_call (E := E0) (fm := fm__law_times) (R := rI) (a_cons (e_sub (e_var (R := rI) rfl rfl) (e_var (R := rI) rfl rfl)) (a_one (e_var (R := rI) rfl rfl))))) hm274 ?_
            intro times278 vtimes286 S279 H280 s281 w282 p283 g285 rtimes287 hm284
            cases (show vtimes286 = .int times278 from rtimes287)
            have rproducts134 := Mo.mo g285.s rproducts134
            have rdues199 := Mo.mo g285.s rdues199
            have rtold209 := Mo.mo g285.s rtold209
            have rnamed219 := Mo.mo g285.s rnamed219
            have rcarried277 := Mo.mo g285.s rcarried277
            have eb80 := eb80.tr g285.s
            have ex88 := ex88.tr g285.s
            refine q_set (fun v => [some v_script, some (.ref i.a), some (.int x3), some (.int st145), some v, some vtold208, some vnamed218, some vcarried276, some (.int times278), xmany68, xown69, xbase70, xdue71, some (.int p90), some (.int n100), some vproducts133, xproduct75, xx76, xagain77, none, none, none]) (fun _ => rfl) w282 p283 (EvL.frz (l_lst (a_cons (e_var rfl rcarried277) (a_cons (e_var (R := rI) rfl rfl) (a_one (e_call (E := E0) (fm := fm__law_choice_rest) (R := rI) (a_cons (e_var (R := rI) rfl rfl) (a_cons (e_var (R := rI) rfl rfl) (a_cons (e_var (R := rI) rfl rfl) (a_one (e_var rfl rproducts134))))))))) (arN_cons (arN_cons arN_one)) (by decide))) hm284 ?_
            intro dues288 vdues296 S289 H290 s291 w292 p293 g295 rdues297 hm294
            have rproducts134 := Mo.mo g295.s rproducts134
            have rtold209 := Mo.mo g295.s rtold209
            have rnamed219 := Mo.mo g295.s rnamed219
            have rcarried277 := Mo.mo g295.s rcarried277
            have eb80 := eb80.tr g295.s
            have ex88 := ex88.tr g295.s
            refine q_set (fun v => [some v_script, some (.ref i.a), some (.int x3), some (.int st145), some vdues296, some v, some vnamed218, some vcarried276, some (.int times278), xmany68, xown69, xbase70, xdue71, some (.int p90), some (.int n100), some vproducts133, xproduct75, xx76, xagain77, none, none, none]) (fun _ => rfl) w292 p293 (EvL.frz (l_lst (a_cons (e_call (E := E0) (fm := fm_carried_places) (R := (rT K (aAll rI))) (a_cons (e_var (R := rI) rfl rfl) (a_cons (e_var (R := rI) rfl rfl) (a_one (e_var (R := rI) rfl rfl))))) (a_cons (e_call (E := E0) (fm := fm_times_in_choice) (R := rI) (a_cons (e_var (R := rI) rfl rfl) (a_cons (e_var (R := rI) rfl rfl) (a_one (e_var (R := rI) rfl rfl))))) (a_one (e_call (E := E0) (fm := fm_choice_rest) (R := rI) (a_cons (e_var (R := rI) rfl rfl) (a_cons (e_var (R := rI) rfl rfl) (a_one (e_var (R := rI) rfl rfl)))))))) (arN_cons (arN_cons arN_one)) (by decide))) hm294 ?_
            intro told298 vtold306 S299 H300 s301 w302 p303 g305 rtold307 hm304
            have rproducts134 := Mo.mo g305.s rproducts134
            have rnamed219 := Mo.mo g305.s rnamed219
            have rcarried277 := Mo.mo g305.s rcarried277
            have rdues297 := Mo.mo g305.s rdues297
            have eb80 := eb80.tr g305.s
            have ex88 := ex88.tr g305.s
            refine q_set (fun v => [some v_script, some (.ref i.a), some (.int x3), some (.int st145), some vdues296, some vtold306, some v, some vcarried276, some (.int times278), xmany68, xown69, xbase70, xdue71, some (.int p90), some (.int n100), some vproducts133, xproduct75, xx76, xagain77, none, none, none]) (fun _ => rfl) w302 p303 (EvL.frz (l_lst (a_cons (e_callK (E := E0) (n := 0) (m' := 3) (ix := [2, 1, 0]) (fm := fm_carried_places) (A := (aCons rI (aCons rI (aOne rI)))) (A1 := aNil) (A2 := (aCons rI (aCons rI (aOne rI)))) (R := (rT K (aAll rI))) (fun a b => (b.2.2, b.2.1, b.1)) a_nil (a_cons (e_var (R := rI) rfl rfl) (a_cons (e_var (R := rI) rfl rfl) (a_one (e_var (R := rI) rfl rfl)))) (fun a b vs zs S h1 h2 => by obtain rfl := h1; obtain ⟨_, _, rfl, y0, ⟨_, _, rfl, y1, ⟨_, rfl, y2⟩⟩⟩ := h2; exact ⟨rfl, rfl, ⟨_, _, rfl, y2, ⟨_, _, rfl, y1, ⟨_, rfl, y0⟩⟩⟩⟩)) (a_cons (e_callK (E := E0) (n := 0) (m' := 3) (ix := [2, 1, 0]) (fm := fm_times_in_choice) (A := (aCons rI (aCons rI (aOne rI)))) (A1 := aNil) (A2 := (aCons rI (aCons rI (aOne rI)))) (R := rI) (fun a b => (b.2.2, b.2.1, b.1)) a_nil (a_cons (e_var (R := rI) rfl rfl) (a_cons (e_var (R := rI) rfl rfl) (a_one (e_var (R := rI) rfl rfl)))) (fun a b vs zs S h1 h2 => by obtain rfl := h1; obtain ⟨_, _, rfl, y0, ⟨_, _, rfl, y1, ⟨_, rfl, y2⟩⟩⟩ := h2; exact ⟨rfl, rfl, ⟨_, _, rfl, y2, ⟨_, _, rfl, y1, ⟨_, rfl, y0⟩⟩⟩⟩)) (a_one (e_callK (E := E0) (n := 0) (m' := 3) (ix := [2, 1, 0]) (fm := fm_choice_rest) (A := (aCons rI (aCons rI (aOne rI)))) (A1 := aNil) (A2 := (aCons rI (aCons rI (aOne rI)))) (R := rI) (fun a b => (b.2.2, b.2.1, b.1)) a_nil (a_cons (e_var (R := rI) rfl rfl) (a_cons (e_var (R := rI) rfl rfl) (a_one (e_var (R := rI) rfl rfl)))) (fun a b vs zs S h1 h2 => by obtain rfl := h1; obtain ⟨_, _, rfl, y0, ⟨_, _, rfl, y1, ⟨_, rfl, y2⟩⟩⟩ := h2; exact ⟨rfl, rfl, ⟨_, _, rfl, y2, ⟨_, _, rfl, y1, ⟨_, rfl, y0⟩⟩⟩⟩))))) (arN_cons (arN_cons arN_one)) (by decide))) hm304 ?_
            intro named308 vnamed316 S309 H310 s311 w312 p313 g315 rnamed317 hm314
            have rproducts134 := Mo.mo g315.s rproducts134
            have rcarried277 := Mo.mo g315.s rcarried277
            have rdues297 := Mo.mo g315.s rdues297
            have rtold307 := Mo.mo g315.s rtold307
            have eb80 := eb80.tr g315.s
            have ex88 := ex88.tr g315.s
            refine q_if w312 p313 (t_orT (t_Test (e_neW (c_repr (EvL.frz (l_lstL (a_consL (e_var rfl rtold307) (a_consL (e_var rfl rnamed317) (a_nilL (R := (rL (aCons (rT K (aAll rI)) (aCons rI (aOne rI)))))))))) (d_L (ds_all (d_L (ds_cons (d_T (ds_all d_I)) (ds_cons d_I (ds_one d_I))))))) (c_repr (EvL.frz (l_lstL (a_consL (e_var rfl rdues297) (a_consL (e_var rfl rdues297) (a_nilL (R := (rL (aCons (rT K (aAll rI)) (aCons rI (aOne rI)))))))))) (d_L (ds_all (d_L (ds_cons (d_T (ds_all d_I)) (ds_cons d_I (ds_one d_I))))))))) (t_orT (t_Test (e_ne (c_lenT (e_var rfl rcarried277)) (e_var (R := rI) rfl rfl))) (t_Test (e_ne (e_eq (e_ixCL (n := 2) (A := (aCons (rT K (aAll rI)) (aCons rI (aOne rI)))) (R := rI) (f := fun a => a.2.2) (Ev.rd (e_var rfl rdues297)) rfl (fun a vs S h => by obtain ⟨_, _, rfl, h0, ⟨_, _, rfl, h1, ⟨_, rfl, h2⟩⟩⟩ := h; exact ⟨_, rfl, h2⟩)) e_cI) (e_gt (e_var (R := rI) rfl rfl) e_cI))))) hm314 ?_ ?_
            · intro S318 H319 s320 w321 p322 g323 hm324
              have rproducts134 := Mo.mo g323.s rproducts134
              have rcarried277 := Mo.mo g323.s rcarried277
              have rdues297 := Mo.mo g323.s rdues297
              have rtold307 := Mo.mo g323.s rtold307
              have rnamed317 := Mo.mo g323.s rnamed317
              have eb80 := eb80.tr g323.s
              have ex88 := ex88.tr g323.s
              refine q_ret w321 p322 e_cB hm324 ?_
              intro r332 v333 S325 H326 s327 w328 p329 g331 rr334 hm330
              cases run_of_pure hm330
              exact rt87 _ _ _ rfl ⟨S325, w328.g, p329, rr334⟩
            · intro S335 H336 s337 w338 p339 g340 hm341
              have rproducts134 := Mo.mo g340.s rproducts134
              have rcarried277 := Mo.mo g340.s rcarried277
              have rdues297 := Mo.mo g340.s rdues297
              have rtold307 := Mo.mo g340.s rtold307
              have rnamed317 := Mo.mo g340.s rnamed317
              have eb80 := eb80.tr g340.s
              have ex88 := ex88.tr g340.s
              refine nx_done ?_
              refine q_set (fun v => [some v_script, some (.ref i.a), some (.int x3), some (.int st145), some vdues296, some vtold306, some vnamed316, some vcarried276, some (.int times278), some v, xown69, xbase70, xdue71, some (.int p90), some (.int n100), some vproducts133, xproduct75, xx76, xagain77, none, none, none]) (fun _ => rfl) w338 p339 e_cI hm341 ?_
              intro many342 vmany350 S343 H344 s345 w346 p347 g349 rmany351 hm348
              cases (show vmany350 = .int many342 from rmany351)
              have rproducts134 := Mo.mo g349.s rproducts134
              have rcarried277 := Mo.mo g349.s rcarried277
              have rdues297 := Mo.mo g349.s rdues297
              have rtold307 := Mo.mo g349.s rtold307
              have rnamed317 := Mo.mo g349.s rnamed317
              have eb80 := eb80.tr g349.s
              have ex88 := ex88.tr g349.s
              refine q_for (p := (potPt i)) w346 p347 (i_L (K := K) (EvL.frz (l_call (E := E0) (fm := fm__law_figures) (R := (aAll rI)) (a_cons (e_var (R := rI) rfl rfl) (a_one (e_var (R := rI) rfl rfl)))))) (g_nm (R := rI)) hm348 (fun Sb353 st352 σ S' H' s' => Ex Sb353 S' ∧ (∃ (xown_ : Option V), σ = [some v_script, some (.ref i.a), some (.int x3), some (.int st145), some vdues296, some vtold306, some vnamed316, some vcarried276, some (.int times278), some (.int st352), xown_, xbase70, xdue71, some (.int p90), some (.int n100), some vproducts133, xproduct75, xx76, xagain77, none, none, none] ∧ Wd (potPt i) S0 H0 S' H' [] ∧ PotAt (potPt i) s' S' H' ∧ Ex S343 S')) ?_ ?_ ?_ ?_ ?_
              · intro S355 H356 s357 w358 p359 g360
                have rproducts134 := Mo.mo g360.s rproducts134
                have rcarried277 := Mo.mo g360.s rcarried277
                have rdues297 := Mo.mo g360.s rdues297
                have rtold307 := Mo.mo g360.s rtold307
                have rnamed317 := Mo.mo g360.s rnamed317
                have eb80 := eb80.tr g360.s
                have ex88 := ex88.tr g360.s
                exact ⟨Ex.rf, ⟨_, rfl, w358, p359, g360.s⟩⟩
              · rintro Sb353 st352 _ S365 H366 s367 ⟨ex368, ⟨xown361, rfl, w362, p363, eb364⟩⟩
                exact ⟨ex368, w362.i, p363, ownOk0⟩
              · rintro Sb353 st352 _ S373 H374 s375 S376 H377 ⟨ex379, ⟨xown369, rfl, w370, p371, eb372⟩⟩ g378
                exact ⟨ex379.tr g378.s, _, rfl, w370.go (Gm.up g378), PotAt.go p371 g378, eb372.tr g378.s⟩
              · rintro Sb353 x354 st352 _ σ392 S384 H385 s386 st352_ s2_ D_ ⟨ex391, ⟨xown380, rfl, w381, p382, eb383⟩⟩ hp hm387 nx388
                obtain ⟨_, rfl, rfl⟩ := hp
                have rproducts134 := Mo.mo eb383 rproducts134
                have rcarried277 := Mo.mo eb383 rcarried277
                have rdues297 := Mo.mo eb383 rdues297
                have rtold307 := Mo.mo eb383 rtold307
                have rnamed317 := Mo.mo eb383 rnamed317
                have eb80 := eb80.tr eb383
                have ex88 := ex88.tr eb383
                refine q_set (fun v => [some v_script, some (.ref i.a), some (.int x3), some (.int st145), some vdues296, some vtold306, some vnamed316, some vcarried276, some (.int times278), some v, some (.int x354), xbase70, xdue71, some (.int p90), some (.int n100), some vproducts133, xproduct75, xx76, xagain77, none, none, none]) (fun _ => rfl) w381 p382 (e_mul (e_var (R := rI) rfl rfl) (e_add (e_var (R := rI) rfl rfl) e_cI)) hm387 ?_
                intro many393 vmany401 S394 H395 s396 w397 p398 g400 rmany402 hm399
                cases (show vmany401 = .int many393 from rmany402)
                have rproducts134 := Mo.mo g400.s rproducts134
                have rcarried277 := Mo.mo g400.s rcarried277
                have rdues297 := Mo.mo g400.s rdues297
                have rtold307 := Mo.mo g400.s rtold307
                have rnamed317 := Mo.mo g400.s rnamed317
                have eb80 := eb80.tr g400.s
                have ex88 := ex88.tr g400.s
                have eb383 := eb383.tr g400.s
                have ex391 := ex391.tr g400.s
                cases run_of_pure hm399
                exact (nx388 _ _ _ ⟨ex391, ⟨_, rfl, w397, p398, eb383⟩⟩).1
              · rintro Sb353 st352 _ S407 H408 s409 ⟨_, ⟨xown403, rfl, w404, p405, eb406⟩⟩ hm410
                have rproducts134 := Mo.mo eb406 rproducts134
                have rcarried277 := Mo.mo eb406 rcarried277
                have rdues297 := Mo.mo eb406 rdues297
                have rtold307 := Mo.mo eb406 rtold307
                have rnamed317 := Mo.mo eb406 rnamed317
                have eb80 := eb80.tr eb406
                have ex88 := ex88.tr eb406
                refine q_if w404 p405 (t_Test (e_neW (c_repr (EvL.frz (l_lstL (a_consL (e_call (E := E0) (fm := fm_undivided_choices) (R := rI) (a_cons (e_var (R := rI) rfl rfl) (a_one (e_var (R := rI) rfl rfl)))) (a_consL (e_callK (E := E0) (n := 0) (m' := 2) (ix := [1, 0]) (fm := fm_undivided_choices) (A := (aCons rI (aOne rI))) (A1 := aNil) (A2 := (aCons rI (aOne rI))) (R := rI) (fun a b => (b.2, b.1)) a_nil (a_cons (e_var (R := rI) rfl rfl) (a_one (e_var (R := rI) rfl rfl))) (fun a b vs zs S h1 h2 => by obtain rfl := h1; obtain ⟨_, _, rfl, y0, ⟨_, rfl, y1⟩⟩ := h2; exact ⟨rfl, rfl, ⟨_, _, rfl, y1, ⟨_, rfl, y0⟩⟩⟩)) (a_nilL (R := rI)))))) (d_L (ds_all d_I))) (c_repr (EvL.frz (l_lstL (a_consL (e_var (R := rI) rfl rfl) (a_consL (e_var (R := rI) rfl rfl) (a_nilL (R := rI)))))) (d_L (ds_all d_I))))) hm410 ?_ ?_
                · intro S411 H412 s413 w414 p415 g416 hm417
                  have rproducts134 := Mo.mo g416.s rproducts134
                  have rcarried277 := Mo.mo g416.s rcarried277
                  have rdues297 := Mo.mo g416.s rdues297
                  have rtold307 := Mo.mo g416.s rtold307
                  have rnamed317 := Mo.mo g416.s rnamed317
                  have eb80 := eb80.tr g416.s
                  have ex88 := ex88.tr g416.s
                  refine q_ret w414 p415 e_cB hm417 ?_
                  intro r425 v426 S418 H419 s420 w421 p422 g424 rr427 hm423
                  cases run_of_pure hm423
                  exact rt87 _ _ _ rfl ⟨S418, w421.g, p422, rr427⟩
                · intro S428 H429 s430 w431 p432 g433 hm434
                  have rproducts134 := Mo.mo g433.s rproducts134
                  have rcarried277 := Mo.mo g433.s rcarried277
                  have rdues297 := Mo.mo g433.s rdues297
                  have rtold307 := Mo.mo g433.s rtold307
                  have rnamed317 := Mo.mo g433.s rnamed317
                  have eb80 := eb80.tr g433.s
                  have ex88 := ex88.tr g433.s
                  refine nx_done ?_
                  refine q_if w431 p432 (t_Test (e_lt (e_var (R := rI) rfl rfl) e_cI)) hm434 ?_ ?_
                  · intro S435 H436 s437 w438 p439 g440 hm441
                    have rproducts134 := Mo.mo g440.s rproducts134
                    have rcarried277 := Mo.mo g440.s rcarried277
                    have rdues297 := Mo.mo g440.s rdues297
                    have rtold307 := Mo.mo g440.s rtold307
                    have rnamed317 := Mo.mo g440.s rnamed317
                    have eb80 := eb80.tr g440.s
                    have ex88 := ex88.tr g440.s
                    refine q_set (fun v => [some v_script, some (.ref i.a), some (.int x3), some (.int st145), some vdues296, some vtold306, some vnamed316, some vcarried276, some (.int times278), some (.int st352), xown403, xbase70, xdue71, some (.int p90), some (.int n100), some vproducts133, some v, xx76, xagain77, none, none, none]) (fun _ => rfl) w438 p439 e_cI hm441 ?_
                    intro product442 vproduct450 S443 H444 s445 w446 p447 g449 rproduct451 hm448
                    cases (show vproduct450 = .int product442 from rproduct451)
                    have rproducts134 := Mo.mo g449.s rproducts134
                    have rcarried277 := Mo.mo g449.s rcarried277
                    have rdues297 := Mo.mo g449.s rdues297
                    have rtold307 := Mo.mo g449.s rtold307
                    have rnamed317 := Mo.mo g449.s rnamed317
                    have eb80 := eb80.tr g449.s
                    have ex88 := ex88.tr g449.s
                    refine q_for (p := (potPt i)) w446 p447 (i_R2 e_cI (e_add (e_var (R := rI) rfl rfl) e_cI)) (g_nm (R := rI)) hm448 (fun Sb453 st452 σ S' H' s' => Ex Sb453 S' ∧ (∃ (xx_ : Option V), σ = [some v_script, some (.ref i.a), some (.int x3), some (.int st145), some vdues296, some vtold306, some vnamed316, some vcarried276, some (.int times278), some (.int st352), xown403, xbase70, xdue71, some (.int p90), some (.int n100), some vproducts133, some (.int st452), xx_, xagain77, none, none, none] ∧ Wd (potPt i) S0 H0 S' H' [] ∧ PotAt (potPt i) s' S' H' ∧ Ex S443 S')) ?_ ?_ ?_ ?_ ?_
                    · intro S455 H456 s457 w458 p459 g460
                      have rproducts134 := Mo.mo g460.s rproducts134
                      have rcarried277 := Mo.mo g460.s rcarried277
                      have rdues297 := Mo.mo g460.s rdues297
                      have rtold307 := Mo.mo g460.s rtold307
                      have rnamed317 := Mo.mo g460.s rnamed317
                      have eb80 := eb80.tr g460.s
                      have ex88 := ex88.tr g460.s
                      exact ⟨Ex.rf, ⟨_, rfl, w458, p459, g460.s⟩⟩
                    · rintro Sb453 st452 _ S465 H466 s467 ⟨ex468, ⟨xx461, rfl, w462, p463, eb464⟩⟩
                      exact ⟨ex468, w462.i, p463, ownOk0⟩
                    · rintro Sb453 st452 _ S473 H474 s475 S476 H477 ⟨ex479, ⟨xx469, rfl, w470, p471, eb472⟩⟩ g478
                      exact ⟨ex479.tr g478.s, _, rfl, w470.go (Gm.up g478), PotAt.go p471 g478, eb472.tr g478.s⟩
                    · rintro Sb453 x454 st452 _ σ492 S484 H485 s486 st452_ s2_ D_ ⟨ex491, ⟨xx480, rfl, w481, p482, eb483⟩⟩ hp hm487 nx488
                      obtain ⟨_, rfl, rfl⟩ := hp
                      have rproducts134 := Mo.mo eb483 rproducts134
                      have rcarried277 := Mo.mo eb483 rcarried277
                      have rdues297 := Mo.mo eb483 rdues297
                      have rtold307 := Mo.mo eb483 rtold307
                      have rnamed317 := Mo.mo eb483 rnamed317
                      have eb80 := eb80.tr eb483
                      have ex88 := ex88.tr eb483
                      refine q_set (fun v => [some v_script, some (.ref i.a), some (.int x3), some (.int st145), some vdues296, some vtold306, some vnamed316, some vcarried276, some (.int times278), some (.int st352), xown403, xbase70, xdue71, some (.int p90), some (.int n100), some vproducts133, some v, some (.int x454), xagain77, none, none, none]) (fun _ => rfl) w481 p482 (e_mul (e_var (R := rI) rfl rfl) (e_var (R := rI) rfl rfl)) hm487 ?_
                      intro product493 vproduct501 S494 H495 s496 w497 p498 g500 rproduct502 hm499
                      cases (show vproduct501 = .int product493 from rproduct502)
                      have rproducts134 := Mo.mo g500.s rproducts134
                      have rcarried277 := Mo.mo g500.s rcarried277
                      have rdues297 := Mo.mo g500.s rdues297
                      have rtold307 := Mo.mo g500.s rtold307
                      have rnamed317 := Mo.mo g500.s rnamed317
                      have eb80 := eb80.tr g500.s
                      have ex88 := ex88.tr g500.s
                      have eb483 := eb483.tr g500.s
                      have ex491 := ex491.tr g500.s
                      cases run_of_pure hm499
                      exact (nx488 _ _ _ ⟨ex491, ⟨_, rfl, w497, p498, eb483⟩⟩).1
                    · rintro Sb453 st452 _ S507 H508 s509 ⟨_, ⟨xx503, rfl, w504, p505, eb506⟩⟩ hm510
                      have rproducts134 := Mo.mo eb506 rproducts134
                      have rcarried277 := Mo.mo eb506 rcarried277
                      have rdues297 := Mo.mo eb506 rdues297
                      have rtold307 := Mo.mo eb506 rtold307
                      have rnamed317 := Mo.mo eb506 rnamed317
                      have eb80 := eb80.tr eb506
                      have ex88 := ex88.tr eb506
                      refine q_for (p := (potPt i)) w504 p505 (i_R1 (e_call (E := E0) (fm := fm__law_times) (R := rI) (a_cons (e_var (R := rI) rfl rfl) (a_one (e_var (R := rI) rfl rfl))))) (g_nm (R := rI)) hm510 (fun Sb512 st511 σ S' H' s' => Ex Sb512 S' ∧ (∃ (xagain_ : Option V), σ = [some v_script, some (.ref i.a), some (.int x3), some (.int st145), some vdues296, some vtold306, some vnamed316, some vcarried276, some (.int times278), some (.int st352), xown403, xbase70, xdue71, some (.int p90), some (.int n100), some vproducts133, some (.int st511), xx503, xagain_, none, none, none] ∧ Wd (potPt i) S0 H0 S' H' [] ∧ PotAt (potPt i) s' S' H' ∧ Ex S507 S')) ?_ ?_ ?_ ?_ ?_
                      · intro S514 H515 s516 w517 p518 g519
                        have rproducts134 := Mo.mo g519.s rproducts134
                        have rcarried277 := Mo.mo g519.s rcarried277
                        have rdues297 := Mo.mo g519.s rdues297
                        have rtold307 := Mo.mo g519.s rtold307
                        have rnamed317 := Mo.mo g519.s rnamed317
                        have eb80 := eb80.tr g519.s
                        have ex88 := ex88.tr g519.s
                        exact ⟨Ex.rf, ⟨_, rfl, w517, p518, g519.s⟩⟩
                      · rintro Sb512 st511 _ S524 H525 s526 ⟨ex527, ⟨xagain520, rfl, w521, p522, eb523⟩⟩
                        exact ⟨ex527, w521.i, p522, ownOk0⟩
                      · rintro Sb512 st511 _ S532 H533 s534 S535 H536 ⟨ex538, ⟨xagain528, rfl, w529, p530, eb531⟩⟩ g537
                        exact ⟨ex538.tr g537.s, _, rfl, w529.go (Gm.up g537), PotAt.go p530 g537, eb531.tr g537.s⟩
                      · rintro Sb512 x513 st511 _ σ551 S543 H544 s545 st511_ s2_ D_ ⟨ex550, ⟨xagain539, rfl, w540, p541, eb542⟩⟩ hp hm546 nx547
                        obtain ⟨_, rfl, rfl⟩ := hp
                        have rproducts134 := Mo.mo eb542 rproducts134
                        have rcarried277 := Mo.mo eb542 rcarried277
                        have rdues297 := Mo.mo eb542 rdues297
                        have rtold307 := Mo.mo eb542 rtold307
                        have rnamed317 := Mo.mo eb542 rnamed317
                        have eb80 := eb80.tr eb542
                        have ex88 := ex88.tr eb542
                        refine q_set (fun v => [some v_script, some (.ref i.a), some (.int x3), some (.int st145), some vdues296, some vtold306, some vnamed316, some vcarried276, some (.int times278), some (.int st352), xown403, xbase70, xdue71, some (.int p90), some (.int n100), some vproducts133, some v, xx503, some (.int x513), none, none, none]) (fun _ => rfl) w540 p541 (e_fdiv (e_var (R := rI) rfl rfl) (e_var (R := rI) rfl rfl)) hm546 ?_
                        intro product552 vproduct560 S553 H554 s555 w556 p557 g559 rproduct561 hm558
                        cases (show vproduct560 = .int product552 from rproduct561)
                        have rproducts134 := Mo.mo g559.s rproducts134
                        have rcarried277 := Mo.mo g559.s rcarried277
                        have rdues297 := Mo.mo g559.s rdues297
                        have rtold307 := Mo.mo g559.s rtold307
                        have rnamed317 := Mo.mo g559.s rnamed317
                        have eb80 := eb80.tr g559.s
                        have ex88 := ex88.tr g559.s
                        have eb542 := eb542.tr g559.s
                        have ex550 := ex550.tr g559.s
                        cases run_of_pure hm558
                        exact (nx547 _ _ _ ⟨ex550, ⟨_, rfl, w556, p557, eb542⟩⟩).1
                      · rintro Sb512 st511 _ S566 H567 s568 ⟨_, ⟨xagain562, rfl, w563, p564, eb565⟩⟩ hm569
                        have rproducts134 := Mo.mo eb565 rproducts134
                        have rcarried277 := Mo.mo eb565 rcarried277
                        have rdues297 := Mo.mo eb565 rdues297
                        have rtold307 := Mo.mo eb565 rtold307
                        have rnamed317 := Mo.mo eb565 rnamed317
                        have eb80 := eb80.tr eb565
                        have ex88 := ex88.tr eb565
                        refine q_if w563 p564 (t_or (t_Test (e_ne (e_mod (e_var (R := rI) rfl rfl) (e_var (R := rI) rfl rfl)) (e_call (E := E0) (fm := fm_product_rest) (R := rI) (a_cons (e_var (R := rI) rfl rfl) (a_one (e_var (R := rI) rfl rfl)))))) (t_Test (e_ne (e_mod (e_call (E := E0) (fm := fm__law_choose) (R := rI) (a_cons (e_var (R := rI) rfl rfl) (a_one (e_var (R := rI) rfl rfl)))) (e_var (R := rI) rfl rfl)) (e_call (E := E0) (fm := fm_choice_rest) (R := rI) (a_cons (e_var (R := rI) rfl rfl) (a_cons (e_var (R := rI) rfl rfl) (a_one (e_var (R := rI) rfl rfl)))))))) hm569 ?_ ?_
                        · intro S570 H571 s572 w573 p574 g575 hm576
                          have rproducts134 := Mo.mo g575.s rproducts134
                          have rcarried277 := Mo.mo g575.s rcarried277
                          have rdues297 := Mo.mo g575.s rdues297
                          have rtold307 := Mo.mo g575.s rtold307
                          have rnamed317 := Mo.mo g575.s rnamed317
                          have eb80 := eb80.tr g575.s
                          have ex88 := ex88.tr g575.s
                          refine q_ret w573 p574 e_cB hm576 ?_
                          intro r584 v585 S577 H578 s579 w580 p581 g583 rr586 hm582
                          cases run_of_pure hm582
                          exact rt87 _ _ _ rfl ⟨S577, w580.g, p581, rr586⟩
                        · intro S587 H588 s589 w590 p591 g592 hm593
                          have rproducts134 := Mo.mo g592.s rproducts134
                          have rcarried277 := Mo.mo g592.s rcarried277
                          have rdues297 := Mo.mo g592.s rdues297
                          have rtold307 := Mo.mo g592.s rtold307
                          have rnamed317 := Mo.mo g592.s rnamed317
                          have eb80 := eb80.tr g592.s
                          have ex88 := ex88.tr g592.s
                          refine nx_done ?_
                          refine nx_done ?_
                          refine q_set (fun v => [some v_script, some (.ref i.a), some (.int x3), some (.int st145), some vdues296, some vtold306, some vnamed316, some vcarried276, some (.int times278), some (.int st352), xown403, some v, xdue71, some (.int p90), some (.int n100), some vproducts133, some (.int st511), xx503, xagain562, none, none, none]) (fun _ => rfl) w590 p591 (e_add e_cI (e_callP (F := fun i => potPt i) (i := i) (A := fun i => (aCons (rP i) (aOne rI))) (E := E0) (fm := fm__law_draw) (R := rI) (a_cons (e_var (R := rP i) (a := ()) rfl rfl) (a_one (e_callP (F := fun i => potPt i) (i := i) (A := fun i => (aCons (rP i) (aOne (rL (aAll rI))))) (E := E0) (fm := fm__law_pick) (R := rI) (a_cons (e_var (R := rP i) (a := ()) rfl rfl) (a_one (EvL.frz (l_lstL (a_consL e_cI (a_consL e_cI (a_nilL (R := rI))))))))))))) hm593 ?_
                          intro base594 vbase602 S595 H596 s597 w598 p599 g601 rbase603 hm600
                          cases (show vbase602 = .int base594 from rbase603)
                          have rproducts134 := Mo.mo g601.s rproducts134
                          have rcarried277 := Mo.mo g601.s rcarried277
                          have rdues297 := Mo.mo g601.s rdues297
                          have rtold307 := Mo.mo g601.s rtold307
                          have rnamed317 := Mo.mo g601.s rnamed317
                          have eb80 := eb80.tr g601.s
                          have ex88 := ex88.tr g601.s
                          refine q_set (fun v => [some v_script, some (.ref i.a), some (.int x3), some (.int st145), some vdues296, some vtold306, some vnamed316, some vcarried276, some (.int times278), some (.int st352), xown403, some (.int base594), some v, some (.int p90), some (.int n100), some vproducts133, some (.int st511), xx503, xagain562, none, none, none]) (fun _ => rfl) w598 p599 (c_min (EvL.rd (l_lc1 (γ := Int) (vs := [19, 20]) (me := fun x604 k => Mir.lft (m__law_times n100 x604.1) >>= fun r607 => Mir.lft (grd (Dv x604.2)) >>= fun _ => k (r607 / x604.2)) (R' := rI) (i_L (K := K) (EvL.frz (l_call (E := E0) (fm := fm__law_parting) (R := (aAll (rT K (aCons rI (aOne rI))))) (a_one (e_var (R := rI) rfl rfl))))) ownOk0 (g_tp (gq_cons (g_nm (R := rI)) (gq_one (g_nm (R := rI))))) (fun x σ' S hp => by obtain ⟨_, ⟨_, rfl, _⟩, ⟨_, rfl, _⟩⟩ := hp; rfl) (fun x604 σ' S1 H1 g605 hp => by have w606 := w598.go g605; obtain ⟨_, ⟨_, rfl, rfl⟩, ⟨_, rfl, rfl⟩⟩ := hp; have rproducts134 := Mo.mo g605.s rproducts134; have rcarried277 := Mo.mo g605.s rcarried277; have rdues297 := Mo.mo g605.s rdues297; have rtold307 := Mo.mo g605.s rtold307; have rnamed317 := Mo.mo g605.s rnamed317; exact (e_fdiv (e_call (E := E0) (fm := fm__law_times) (R := rI) (a_cons (e_var (R := rI) rfl rfl) (a_one (e_var (R := rI) rfl rfl)))) (e_var (R := rI) rfl rfl))) (pm_cons pm_nm pm_nm)))) hm600 ?_
                          intro due609 vdue617 S610 H611 s612 w613 p614 g616 rdue618 hm615
                          cases (show vdue617 = .int due609 from rdue618)
                          have rproducts134 := Mo.mo g616.s rproducts134
                          have rcarried277 := Mo.mo g616.s rcarried277
                          have rdues297 := Mo.mo g616.s rdues297
                          have rtold307 := Mo.mo g616.s rtold307
                          have rnamed317 := Mo.mo g616.s rnamed317
                          have eb80 := eb80.tr g616.s
                          have ex88 := ex88.tr g616.s
                          refine q_if w613 p614 (t_Test (e_neW (c_repr (EvL.frz (l_lstL (a_consL (e_call (E := E0) (fm := fm_end_noughts) (R := rI) (a_cons (e_var (R := rI) rfl rfl) (a_one (e_var (R := rI) rfl rfl)))) (a_consL (e_callK (E := E0) (n := 0) (m' := 2) (ix := [1, 0]) (fm := fm_end_noughts) (A := (aCons rI (aOne rI))) (A1 := aNil) (A2 := (aCons rI (aOne rI))) (R := rI) (fun a b => (b.2, b.1)) a_nil (a_cons (e_var (R := rI) rfl rfl) (a_one (e_var (R := rI) rfl rfl))) (fun a b vs zs S h1 h2 => by obtain rfl := h1; obtain ⟨_, _, rfl, y0, ⟨_, rfl, y1⟩⟩ := h2; exact ⟨rfl, rfl, ⟨_, _, rfl, y1, ⟨_, rfl, y0⟩⟩⟩)) (a_nilL (R := rI)))))) (d_L (ds_all d_I))) (c_repr (EvL.frz (l_lstL (a_consL (e_var (R := rI) rfl rfl) (a_consL (e_var (R := rI) rfl rfl) (a_nilL (R := rI)))))) (d_L (ds_all d_I))))) hm615 ?_ ?_
                          · intro S619 H620 s621 w622 p623 g624 hm625
                            have rproducts134 := Mo.mo g624.s rproducts134
                            have rcarried277 := Mo.mo g624.s rcarried277
                            have rdues297 := Mo.mo g624.s rdues297
                            have rtold307 := Mo.mo g624.s rtold307
                            have rnamed317 := Mo.mo g624.s rnamed317
                            have eb80 := eb80.tr g624.s
                            have ex88 := ex88.tr g624.s
                            refine q_ret w622 p623 e_cB hm625 ?_
                            intro r633 v634 S626 H627 s628 w629 p630 g632 rr635 hm631
                            cases run_of_pure hm631
                            exact rt87 _ _ _ rfl ⟨S626, w629.g, p630, rr635⟩
                          · intro S636 H637 s638 w639 p640 g641 hm642
                            have rproducts134 := Mo.mo g641.s rproducts134
                            have rcarried277 := Mo.mo g641.s rcarried277
                            have rdues297 := Mo.mo g641.s rdues297
                            have rtold307 := Mo.mo g641.s rtold307
                            have rnamed317 := Mo.mo g641.s rnamed317
                            have eb80 := eb80.tr g641.s
                            have ex88 := ex88.tr g641.s
                            refine nx_done ?_
                            cases run_of_pure hm642
                            exact (nx85 _ _ _ _ rfl ⟨ex88, ⟨_, _, _, _, _, _, _, _, _, _, _, _, _, _, _, _, _, rfl, w639, p640, eb80⟩⟩).1
                  · intro S657 H658 s659 w660 p661 g662 hm663
                    have rproducts134 := Mo.mo g662.s rproducts134
                    have rcarried277 := Mo.mo g662.s rcarried277
                    have rdues297 := Mo.mo g662.s rdues297
                    have rtold307 := Mo.mo g662.s rtold307
                    have rnamed317 := Mo.mo g662.s rnamed317
                    have eb80 := eb80.tr g662.s
                    have ex88 := ex88.tr g662.s
                    refine nx_done ?_
                    refine q_set (fun v => [some v_script, some (.ref i.a), some (.int x3), some (.int st145), some vdues296, some vtold306, some vnamed316, some vcarried276, some (.int times278), some (.int st352), xown403, some v, xdue71, some (.int p90), some (.int n100), some vproducts133, xproduct75, xx76, xagain77, none, none, none]) (fun _ => rfl) w660 p661 (e_add e_cI (e_callP (F := fun i => potPt i) (i := i) (A := fun i => (aCons (rP i) (aOne rI))) (E := E0) (fm := fm__law_draw) (R := rI) (a_cons (e_var (R := rP i) (a := ()) rfl rfl) (a_one (e_callP (F := fun i => potPt i) (i := i) (A := fun i => (aCons (rP i) (aOne (rL (aAll rI))))) (E := E0) (fm := fm__law_pick) (R := rI) (a_cons (e_var (R := rP i) (a := ()) rfl rfl) (a_one (EvL.frz (l_lstL (a_consL e_cI (a_consL e_cI (a_nilL (R := rI))))))))))))) hm663 ?_
                    intro base664 vbase672 S665 H666 s667 w668 p669 g671 rbase673 hm670
                    cases (show vbase672 = .int base664 from rbase673)
                    have rproducts134 := Mo.mo g671.s rproducts134
                    have rcarried277 := Mo.mo g671.s rcarried277
                    have rdues297 := Mo.mo g671.s rdues297
                    have rtold307 := Mo.mo g671.s rtold307
                    have rnamed317 := Mo.mo g671.s rnamed317
                    have eb80 := eb80.tr g671.s
                    have ex88 := ex88.tr g671.s
                    refine q_set (fun v => [some v_script, some (.ref i.a), some (.int x3), some (.int st145), some vdues296, some vtold306, some vnamed316, some vcarried276, some (.int times278), some (.int st352), xown403, some (.int base664), some v, some (.int p90), some (.int n100), some vproducts133, xproduct75, xx76, xagain77, none, none, none]) (fun _ => rfl) w668 p669 (c_min (EvL.rd (l_lc1 (γ := Int) (vs := [19, 20]) (me := fun x674 k => Mir.lft (m__law_times n100 x674.1) >>= fun r677 => Mir.lft (grd (Dv x674.2)) >>= fun _ => k (r677 / x674.2)) (R' := rI) (i_L (K := K) (EvL.frz (l_call (E := E0) (fm := fm__law_parting) (R := (aAll (rT K (aCons rI (aOne rI))))) (a_one (e_var (R := rI) rfl rfl))))) ownOk0 (g_tp (gq_cons (g_nm (R := rI)) (gq_one (g_nm (R := rI))))) (fun x σ' S hp => by obtain ⟨_, ⟨_, rfl, _⟩, ⟨_, rfl, _⟩⟩ := hp; rfl) (fun x674 σ' S1 H1 g675 hp => by have w676 := w668.go g675; obtain ⟨_, ⟨_, rfl, rfl⟩, ⟨_, rfl, rfl⟩⟩ := hp; have rproducts134 := Mo.mo g675.s rproducts134; have rcarried277 := Mo.mo g675.s rcarried277; have rdues297 := Mo.mo g675.s rdues297; have rtold307 := Mo.mo g675.s rtold307; have rnamed317 := Mo.mo g675.s rnamed317; exact (e_fdiv (e_call (E := E0) (fm := fm__law_times) (R := rI) (a_cons (e_var (R := rI) rfl rfl) (a_one (e_var (R := rI) rfl rfl)))) (e_var (R := rI) rfl rfl))) (pm_cons pm_nm pm_nm)))) hm670 ?_
                    intro due679 vdue687 S680 H681 s682 w683 p684 g686 rdue688 hm685
                    cases (show vdue687 = .int due679 from rdue688)
                    have rproducts134 := Mo.mo g686.s rproducts134
                    have rcarried277 := Mo.mo g686.s rcarried277
                    have rdues297 := Mo.mo g686.s rdues297
                    have rtold307 := Mo.mo g686.s rtold307
                    have rnamed317 := Mo.mo g686.s rnamed317
                    have eb80 := eb80.tr g686.s
                    have ex88 := ex88.tr g686.s
                    refine q_if w683 p684 (t_Test (e_neW (c_repr (EvL.frz (l_lstL (a_consL (e_call (E := E0) (fm := fm_end_noughts) (R := rI) (a_cons (e_var (R := rI) rfl rfl) (a_one (e_var (R := rI) rfl rfl)))) (a_consL (e_callK (E := E0) (n := 0) (m' := 2) (ix := [1, 0]) (fm := fm_end_noughts) (A := (aCons rI (aOne rI))) (A1 := aNil) (A2 := (aCons rI (aOne rI))) (R := rI) (fun a b => (b.2, b.1)) a_nil (a_cons (e_var (R := rI) rfl rfl) (a_one (e_var (R := rI) rfl rfl))) (fun a b vs zs S h1 h2 => by obtain rfl := h1; obtain ⟨_, _, rfl, y0, ⟨_, rfl, y1⟩⟩ := h2; exact ⟨rfl, rfl, ⟨_, _, rfl, y1, ⟨_, rfl, y0⟩⟩⟩)) (a_nilL (R := rI)))))) (d_L (ds_all d_I))) (c_repr (EvL.frz (l_lstL (a_consL (e_var (R := rI) rfl rfl) (a_consL (e_var (R := rI) rfl rfl) (a_nilL (R := rI)))))) (d_L (ds_all d_I))))) hm685 ?_ ?_
                    · intro S689 H690 s691 w692 p693 g694 hm695
                      have rproducts134 := Mo.mo g694.s rproducts134
                      have rcarried277 := Mo.mo g694.s rcarried277
                      have rdues297 := Mo.mo g694.s rdues297
                      have rtold307 := Mo.mo g694.s rtold307
                      have rnamed317 := Mo.mo g694.s rnamed317
                      have eb80 := eb80.tr g694.s
                      have ex88 := ex88.tr g694.s
                      refine q_ret w692 p693 e_cB hm695 ?_
                      intro r703 v704 S696 H697 s698 w699 p700 g702 rr705 hm701
                      cases run_of_pure hm701
                      exact rt87 _ _ _ rfl ⟨S696, w699.g, p700, rr705⟩
                    · intro S706 H707 s708 w709 p710 g711 hm712
                      have rproducts134 := Mo.mo g711.s rproducts134
                      have rcarried277 := Mo.mo g711.s rcarried277
                      have rdues297 := Mo.mo g711.s rdues297
                      have rtold307 := Mo.mo g711.s rtold307
                      have rnamed317 := Mo.mo g711.s rnamed317
                      have eb80 := eb80.tr g711.s
                      have ex88 := ex88.tr g711.s
                      refine nx_done ?_
                      cases run_of_pure hm712
                      exact (nx85 _ _ _ _ rfl ⟨ex88, ⟨_, _, _, _, _, _, _, _, _, _, _, _, _, _, _, _, _, rfl, w709, p710, eb80⟩⟩).1
    · rintro Sb2 st1 _ S778 H779 s780 ⟨_, ⟨xturn758, xk759, xdues760, xtold761, xnamed762, xcarried763, xtimes764, xmany765, xown766, xbase767, xdue768, xp769, xn770, xproducts771, xproduct772, xx773, xagain774, rfl, w775, p776, eb777⟩⟩ hm781
      have hm781 := hm781.elim id id
      refine q_ret w775 p776 (e_callP (F := fun i => potPt i) (i := i) (A := fun i => (aOne (rP i))) (E := E0) (fm := fm__law_are_rows_right) (R := rB) (a_one (e_var (R := rP i) (a := ()) rfl rfl))) hm781 ?_
      intro r789 v790 S782 H783 s784 w785 p786 g788 rr791 hm787
      cases run_of_pure hm787
      exact fin _ ⟨S782, w785.g, p786, rr791⟩
    · intro r793 v794 H' s' hr1 hm1
      cases run_of_pure hm1
      exact fin _ hr1
end
end Wk
set_option Elab.async false
set_option maxRecDepth 100000
set_option maxHeartbeats 4000000
set_option linter.all false
/-! A0: figures, carries, parts of factorials: plain -/
namespace Wk
open PySem L2
open PyProof.Rows hiding St
/-- how often p is in n! -/
def lg (p n : Nat) : Nat := if h : n = 0 ∨ p < 2 then 0 else n / p + lg p (n / p)
termination_by n
decreasing_by exact Nat.div_lt_self (by omega) (by omega)
/-- the figures to p -/
def dg (p n : Nat) : List Nat := if h : n = 0 ∨ p < 2 then [] else n % p :: dg p (n / p)
termination_by n
decreasing_by exact Nat.div_lt_self (by omega) (by omega)
theorem lg_0 (p : Nat) : lg p 0 = 0 := by rw [lg]; simp
theorem lg_s {p n : Nat} (hp : 2 ≤ p) (hn : 0 < n) : lg p n = n / p + lg p (n / p) := by rw [lg, dif_neg (by omega)]
theorem dg_0 (p : Nat) : dg p 0 = [] := by rw [dg]; simp
theorem dg_s {p n : Nat} (hp : 2 ≤ p) (hn : 0 < n) : dg p n = n % p :: dg p (n / p) := by rw [dg, dif_neg (by omega)]
theorem div_lt {p n : Nat} (hp : 2 ≤ p) (hn : 0 < n) : n / p < n := Nat.div_lt_self hn (by omega)
/-- from a lesser number to the greater one -/
theorem byDiv {p : Nat} (hp : 2 ≤ p) {P : Nat → Prop} (h0 : P 0) (h : ∀ n, 0 < n → P (n / p) → P n) (n : Nat) : P n := by
  induction n using Nat.strongRecOn with
  | _ n ih =>
    by_cases e : n = 0
    · subst e; exact h0
    · exact h n (by omega) (ih _ (div_lt hp (by omega)))
theorem dg_lt {p : Nat} (hp : 2 ≤ p) (n : Nat) : ∀ d ∈ dg p n, d < p := by
  refine byDiv hp (P := fun n => ∀ d ∈ dg p n, d < p) ?_ (fun n hn ih => ?_) n
  · rw [dg_0]; intro d hd; exact nomatch hd
  · rw [dg_s hp hn]
    intro d hd
    rcases List.mem_cons.mp hd with e | hd
    · subst e; exact Nat.mod_lt _ (by omega)
    · exact ih d hd
theorem dg_len {p : Nat} (hp : 2 ≤ p) : ∀ (k n : Nat), n < 2 ^ k → (dg p n).length ≤ k
  | 0, n, h => by
    have : n = 0 := by simpa using h
    subst this; rw [dg_0]; exact Nat.le_refl _
  | k + 1, n, h => by
    by_cases e : n = 0
    · subst e; rw [dg_0]; exact Nat.zero_le _
    rw [dg_s hp (by omega), List.length_cons]
    have : n / p < 2 ^ k := by
      have h1 : n / p ≤ n / 2 := Nat.div_le_div_left hp (by decide)
      rw [Nat.pow_succ] at h
      omega
    have := dg_len hp k (n / p) this
    omega
/-- Legendre -/
theorem legendre {p : Nat} (hp : 2 ≤ p) (n : Nat) : lg p n * (p - 1) + (dg p n).sum = n := by
  refine byDiv hp (P := fun n => lg p n * (p - 1) + (dg p n).sum = n) ?_ (fun n hn ih => ?_) n
  · rw [lg_0, dg_0]; simp
  · rw [lg_s hp hn, dg_s hp hn, List.sum_cons, Nat.add_mul]
    have h1 := Nat.div_add_mod n p
    have h2 : n / p * (p - 1) + n / p = p * (n / p) := by
      obtain ⟨q, rfl⟩ : ∃ q, p = q + 1 := ⟨p - 1, by omega⟩
      rw [Nat.add_sub_cancel, Nat.mul_comm (q + 1), Nat.mul_add, Nat.mul_one]
    omega
theorem dg_get {p : Nat} (hp : 2 ≤ p) : ∀ (x n : Nat), (x < (dg p n).length → (dg p n)[x]? = some (n / p ^ x % p)) ∧ ((dg p n).length ≤ x → n / p ^ x = 0)
  | 0, n => by
    by_cases e : n = 0
    · subst e; rw [dg_0]; simp
    · rw [dg_s hp (by omega)]; simp
  | x + 1, n => by
    by_cases e : n = 0
    · subst e; rw [dg_0]; simp
    · rw [dg_s hp (by omega)]
      have := dg_get hp x (n / p)
      rw [Nat.pow_succ, Nat.mul_comm, ← Nat.div_div_eq_div_mul]
      refine ⟨fun h => ?_, fun h => ?_⟩
      · rw [List.getElem?_cons_succ]; exact this.1 (by simpa using h)
      · exact this.2 (by simpa using h)
/-! ### carries -/
def cy (p a b c : Nat) : Nat := if p ≤ a % p + b % p + c then 1 else 0
theorem cy_le (p a b c : Nat) : cy p a b c ≤ 1 := by unfold cy; split <;> omega
theorem cy_div {p a b c : Nat} (hp : 2 ≤ p) (hc : c ≤ 1) : (a + b + c) / p = a / p + b / p + cy p a b c ∧ (a + b + c) % p + p * cy p a b c = a % p + b % p + c := by
  have h1 := Nat.div_add_mod a p
  have h2 := Nat.div_add_mod b p
  have h3 := Nat.mod_lt a (show p > 0 by omega)
  have h4 := Nat.mod_lt b (show p > 0 by omega)
  have key : a + b + c = p * (a / p + b / p + cy p a b c) + (a % p + b % p + c - p * cy p a b c) ∧ p * cy p a b c ≤ a % p + b % p + c ∧ a % p + b % p + c - p * cy p a b c < p := by
    unfold cy
    split
    · rw [Nat.mul_add, Nat.mul_add, Nat.mul_one]; omega
    · rw [Nat.mul_add, Nat.mul_add, Nat.mul_zero]; omega
  obtain ⟨k1, k2, k3⟩ := key
  have d : (a + b + c) / p = a / p + b / p + cy p a b c := by
    rw [k1, Nat.mul_add_div (by omega), Nat.div_eq_of_lt k3, Nat.add_zero]
  have m : (a + b + c) % p = a % p + b % p + c - p * cy p a b c := by
    rw [k1, Nat.mul_add_mod, Nat.mod_eq_of_lt k3]
  exact ⟨d, by omega⟩
/-- the places where it is carried; t bounds the turns -/
def cr (p : Nat) : Nat → Nat → Nat → Nat → Nat → List Nat
  | 0, _, _, _, _ => []
  | t + 1, a, b, c, x => if a + b + c = 0 then [] else (if cy p a b c = 1 then [x] else []) ++ cr p t (a / p) (b / p) (cy p a b c) (x + 1)
theorem cr_z (p t x : Nat) : cr p t 0 0 0 x = [] := by cases t <;> simp [cr]
/-- Kummer -/
theorem kummer {p : Nat} (hp : 2 ≤ p) : ∀ (t a b c x : Nat), c ≤ 1 → a + b + c < 2 ^ t → lg p (a + b + c) = lg p a + lg p b + (cr p t a b c x).length
  | 0, a, b, c, x, hc, h => by
    have : a = 0 ∧ b = 0 ∧ c = 0 := by simp at h; omega
    obtain ⟨rfl, rfl, rfl⟩ := this
    simp [lg_0, cr]
  | t + 1, a, b, c, x, hc, h => by
    by_cases e : a + b + c = 0
    · have : a = 0 ∧ b = 0 ∧ c = 0 := by omega
      obtain ⟨rfl, rfl, rfl⟩ := this
      simp [lg_0, cr]
    obtain ⟨d1, d2⟩ := cy_div (a := a) (b := b) hp hc
    have hlt : a / p + b / p + cy p a b c < 2 ^ t := by
      rw [← d1]
      have h1 : (a + b + c) / p ≤ (a + b + c) / 2 := Nat.div_le_div_left hp (by decide)
      rw [Nat.pow_succ] at h
      omega
    have ih := kummer hp t (a / p) (b / p) (cy p a b c) (x + 1) (cy_le ..) hlt
    rw [lg_s hp (by omega), d1, ih, cr, if_neg e, List.length_append]
    have ha : lg p a = a / p + lg p (a / p) := by
      by_cases z : a = 0
      · subst z; simp [lg_0]
      · exact lg_s hp (by omega)
    have hb : lg p b = b / p + lg p (b / p) := by
      by_cases z : b = 0
      · subst z; simp [lg_0]
      · exact lg_s hp (by omega)
    have hcl : (if cy p a b c = 1 then [x] else []).length = cy p a b c := by
      have := cy_le p a b c
      by_cases z : cy p a b c = 1
      · rw [if_pos z, z]; rfl
      · rw [if_neg z]; simp; omega
    rw [ha, hb, hcl]
    omega
/-! ### choices -/
def fc : Nat → Nat
  | 0 => 1
  | n + 1 => fc n * (n + 1)
theorem fc_pos : ∀ n, 0 < fc n
  | 0 => by decide
  | n + 1 => Nat.mul_pos (fc_pos n) (by omega)
def bn : Nat → Nat → Nat
  | _, 0 => 1
  | 0, _ + 1 => 0
  | n + 1, k + 1 => bn n k + bn n (k + 1)
theorem bn_z : ∀ n, bn n 0 = 1
  | 0 => rfl
  | _ + 1 => rfl
theorem bn_gt : ∀ {n k : Nat}, n < k → bn n k = 0
  | 0, 0, h => absurd h (by decide)
  | 0, _ + 1, _ => rfl
  | _ + 1, 0, h => absurd h (by omega)
  | n + 1, k + 1, h => by rw [bn, bn_gt (by omega), bn_gt (by omega)]
theorem bn_pow : ∀ n k, bn n k ≤ 2 ^ n
  | n, 0 => by rw [bn_z]; exact Nat.one_le_two_pow
  | 0, _ + 1 => by rw [bn]; decide
  | n + 1, k + 1 => by
    have h1 := bn_pow n k
    have h2 := bn_pow n (k + 1)
    rw [bn, Nat.pow_succ]
    omega
theorem bn_step : ∀ n k, bn n (k + 1) * (k + 1) = bn n k * (n - k)
  | 0, 0 => by simp [bn]
  | 0, k + 1 => by simp [bn]
  | n + 1, 0 => by
    have := bn_step n 0
    have e : bn (n + 1) (0 + 1) = bn n 0 + bn n (0 + 1) := rfl
    rw [e, bn_z, bn_z]
    rw [bn_z] at this
    simp at this ⊢
    omega
  | n + 1, k + 1 => by
    have h1 := bn_step n k
    have h2 := bn_step n (k + 1)
    rw [bn, bn]
    by_cases hk : k < n
    · have e1 : n + 1 - (k + 1) = n - k := by omega
      have e2 : n - k = n - (k + 1) + 1 := by omega
      rw [e1]
      have : (bn n (k + 1) + bn n (k + 1 + 1)) * (k + 1 + 1) = bn n (k + 1) * (k + 1) + bn n (k + 1) + bn n (k + 1 + 1) * (k + 1 + 1) := by
        rw [Nat.add_mul, Nat.mul_add (bn n (k + 1)), Nat.mul_one]
      rw [this, h1, h2, Nat.add_mul, e2, Nat.mul_add (bn n (k + 1)), Nat.mul_one]
      omega
    · have e1 : n + 1 - (k + 1) = 0 := by omega
      rw [e1, Nat.mul_zero, bn_gt (show n < k + 1 by omega), bn_gt (show n < k + 1 + 1 by omega)]
      simp
/-- b! (a - b)! in a! -/
theorem bn_fc : ∀ {a b : Nat}, b ≤ a → bn a b * (fc b * fc (a - b)) = fc a
  | a, 0, _ => by rw [bn_z]; simp [fc]
  | a, b + 1, h => by
    have ih := bn_fc (a := a) (b := b) (by omega)
    have st := bn_step a b
    have e : a - b = (a - (b + 1)) + 1 := by omega
    rw [e, fc] at ih
    rw [fc, ← ih]
    have e2 : a - (b + 1) + 1 = a - b := by omega
    rw [e2]
    calc bn a (b + 1) * (fc b * (b + 1) * fc (a - (b + 1))) = (bn a (b + 1) * (b + 1)) * (fc b * fc (a - (b + 1))) := by simp only [Nat.mul_comm, Nat.mul_left_comm, Nat.mul_assoc]
      _ = (bn a b * (a - b)) * (fc b * fc (a - (b + 1))) := by rw [st]
      _ = _ := by simp only [Nat.mul_comm, Nat.mul_left_comm, Nat.mul_assoc]
/-! ### primes that Fermat knows -/
def FL (p : Nat) : Prop := 2 ≤ p ∧ ∀ x, 0 < x → x < p → x ^ (p - 1) % p = 1
theorem FL.unit {p : Nat} (h : FL p) {x : Nat} (hx : x % p ≠ 0) : x * x ^ (p - 2) % p = 1 := by
  have h2 := h.1
  have e : x * x ^ (p - 2) = x ^ (p - 1) := by
    rw [show p - 1 = (p - 2) + 1 by omega, Nat.pow_succ, Nat.mul_comm]
  rw [e, Nat.pow_mod]
  exact h.2 _ (by omega) (Nat.mod_lt _ (by omega))
theorem FL.cut {p : Nat} (h : FL p) {x y : Nat} (hx : x % p ≠ 0) (e : x * y % p = 0) : y % p = 0 := by
  have u := h.unit hx
  have : (x * x ^ (p - 2)) * y % p = 0 := by
    have : (x * x ^ (p - 2)) * y = (x * y) * x ^ (p - 2) := by simp only [Nat.mul_comm, Nat.mul_left_comm, Nat.mul_assoc]
    rw [this, Nat.mul_mod, e]; simp
  rw [Nat.mul_mod, u] at this
  simpa using this
theorem FL.fc {p : Nat} (h : FL p) : ∀ a, a < p → fc a % p ≠ 0
  | 0, _ => by
    have := h.1
    show 1 % p ≠ 0
    rw [Nat.mod_eq_of_lt (by omega)]; decide
  | a + 1, ha => fun e => by
    have := h.cut (FL.fc h a (by omega)) (show Wk.fc a * (a + 1) % p = 0 from e)
    rw [Nat.mod_eq_of_lt ha] at this
    omega
theorem FL.bn {p : Nat} (h : FL p) {a b : Nat} (ha : a < p) (hb : b ≤ a) : bn a b % p ≠ 0 := fun e => by
  have := h.fc a ha
  rw [← bn_fc hb, Nat.mul_mod, e] at this
  simp at this
/-- a choice by the law's own way -/
theorem FL.choice {p : Nat} (h : FL p) {a b : Nat} (ha : a < p) (hb : b ≤ a) : Wk.bn a b % p = (Wk.fc a % p) * (((Wk.fc b % p) * (Wk.fc (a - b) % p)) ^ (p - 2) % p) % p := by
  have h2 := h.1
  have hu : (Wk.fc b * Wk.fc (a - b)) % p ≠ 0 := fun e => by
    have := h.fc a ha
    rw [← bn_fc hb, Nat.mul_mod, e] at this
    simp at this
  have u := h.unit hu
  have e1 : ((Wk.fc b % p) * (Wk.fc (a - b) % p)) ^ (p - 2) % p = (Wk.fc b * Wk.fc (a - b)) ^ (p - 2) % p := by
    rw [Nat.pow_mod, ← Nat.mul_mod, ← Nat.pow_mod]
  rw [e1, ← Nat.mul_mod, ← bn_fc hb, Nat.mul_assoc, Nat.mul_mod, u, Nat.mul_one, Nat.mod_mod]
/-! ### choices figure by figure -/
def wl (p : Nat) : Nat → Nat → Nat → Nat → Nat
  | 0, _, _, f => f
  | t + 1, n, k, f => if n = 0 ∨ f = 0 then f else wl p t (n / p) (k / p) (f * bn (n % p) (k % p) % p)
theorem wl_0 (p : Nat) : ∀ t n k, wl p t n k 0 = 0
  | 0, _, _ => rfl
  | t + 1, n, k => by simp [wl]
theorem lucas_0 {p : Nat} (h : FL p) : ∀ (t a b x f : Nat), a + b < 2 ^ t → 0 < f → f < p → (wl p t (a + b) a f = 0 ↔ 0 < (cr p t a b 0 x).length)
  | 0, a, b, x, f, hl, h0, h1 => by simp [wl, cr]; omega
  | t + 1, a, b, x, f, hl, h0, h1 => by
    have hp := h.1
    by_cases e : a + b = 0
    · have : a = 0 ∧ b = 0 := by omega
      obtain ⟨rfl, rfl⟩ := this
      simp [wl, cr]; omega
    obtain ⟨d1, d2⟩ := cy_div (a := a) (b := b) (c := 0) hp (by omega)
    rw [Nat.add_zero] at d1 d2
    have hlt : a / p + b / p + cy p a b 0 < 2 ^ t := by
      rw [← d1]
      have h1 : (a + b) / p ≤ (a + b) / 2 := Nat.div_le_div_left hp (by decide)
      rw [Nat.pow_succ] at hl
      omega
    have m1 := Nat.mod_lt a (show p > 0 by omega)
    have m2 := Nat.mod_lt b (show p > 0 by omega)
    rw [wl, if_neg (by omega), cr, if_neg (by omega)]
    by_cases z : cy p a b 0 = 1
    · rw [z, Nat.mul_one] at d2
      rw [bn_gt (show (a + b) % p < a % p by omega), Nat.mul_zero, Nat.zero_mod, wl_0, if_pos z]
      simp
    · have z0 : cy p a b 0 = 0 := by have := cy_le p a b 0; omega
      rw [z0, Nat.mul_zero, Nat.add_zero, Nat.add_zero] at d2
      have nz : f * bn ((a + b) % p) (a % p) % p ≠ 0 := fun e3 => by
        have := h.cut (by rw [Nat.mod_eq_of_lt h1]; omega) e3
        exact h.bn (Nat.mod_lt _ (by omega)) (by omega) this
      rw [if_neg z, d1, z0, Nat.add_zero, List.nil_append]
      exact lucas_0 h t (a / p) (b / p) (x + 1) _ (by rw [z0] at hlt; omega) (by omega) (Nat.mod_lt _ (by omega))
end Wk
set_option Elab.async false
set_option maxRecDepth 100000
set_option maxHeartbeats 4000000
set_option linter.all false
namespace Wk
open PySem L2
open PyProof.Rows hiding St
theorem dv_nat {p : Nat} (hp : 2 ≤ p) (hq : p < 2 ^ 1000) : Dv (p : Int) := by
  have h : ((p : Nat) : Int) < ((2 ^ 1000 : Nat) : Int) := by exact_mod_cast hq
  have e2 : ((2 ^ 1000 : Nat) : Int) = 2 ^ 1000 := by push_cast; rfl
  exact dv_of (by omega) (by rwa [e2] at h)
theorem p1000 {p : Nat} (hq : p < 1000) : p < 2 ^ 1000 := Nat.lt_trans hq (Nat.lt_trans (by decide : 1000 < 2 ^ 10) (Nat.pow_lt_pow_right (by decide) (by decide)))
theorem times_ok {p n : Nat} (hp : 2 ≤ p) (hq : p < 1000) (hn : n < 10 ^ 40) : m__law_times n p = some (lg p n : Int) := by
  unfold m__law_times
  refine tt_eq (tt_bnd.mpr (Tt.then (P' := fun st _ => st.2 = (lg p n : Int)) ?_ fun st _ h => ?_))
  · refine Tt.wh (I := fun st _ => ∃ m a : Nat, st = ((m : Int), (a : Int)) ∧ a + lg p m = lg p n) (nu := fun st => st.1.toNat) ?_ many _ _ ⟨n, 0, rfl, by simp⟩ (lt_many (by simpa using hn))
    rintro st s k P ⟨m, a, rfl, e⟩ hk
    refine hk _ _ (fun ht => ?_) (fun ht => ?_)
    · have hm : 0 < m := by simpa using ht
      simp only [tt_grd, tt_bnd, tt_pure]
      refine ⟨dv_nat hp (p1000 hq), ⟨m / p, a + m / p, by push_cast; rfl, ?_⟩, ?_⟩
      · rw [lg_s hp hm] at e; omega
      · have := div_lt hp hm
        have e3 : ((m : Int) / (p : Int)) = ((m / p : Nat) : Int) := by push_cast; rfl
        simp only [e3, Int.toNat_natCast]; exact this
    · have hm : m = 0 := by simp at ht; omega
      subst hm
      rw [lg_0] at e
      show (a : Int) = _
      omega
  · simp only [tt_bnd, tt_pure]; exact h
theorem times_same (n p : Int) : m_times_in_product n p = m__law_times n p := by unfold m_times_in_product m__law_times; rfl
theorem figures_same (n p : Int) : m_figures_told n p = m__law_figures n p := by unfold m_figures_told m__law_figures; rfl
/-- the figures as ints -/
def di (p n : Nat) : List Int := List.map (fun d : Nat => (d : Int)) (dg p n)
theorem figures_ok {p n : Nat} (hp : 2 ≤ p) (hq : p < 1000) (hn : n < 2 ^ 100) : m__law_figures n p = some (di p n) := by
  unfold m__law_figures
  refine tt_eq (tt_grd.mpr ⟨by simp, tt_bnd.mpr (Tt.then (P' := fun st _ => st.2 = di p n) ?_ fun st _ h => ?_)⟩)
  · refine Tt.wh (I := fun st _ => ∃ (m : Nat) (a : List Int), st = ((m : Int), a) ∧ a ++ di p m = di p n) (nu := fun st => st.1.toNat) ?_ many _ _ ⟨n, [], rfl, by simp⟩ (lt_many (Nat.lt_of_lt_of_le (by simpa using hn) (by decide)))
    rintro st s k P ⟨m, a, rfl, e⟩ hk
    refine hk _ _ (fun ht => ?_) (fun ht => ?_)
    · have hm : 0 < m := by simpa using ht
      simp only [tt_grd, tt_bnd, tt_pure]
      have hl : (di p n).length ≤ 100 := by unfold di; rw [List.length_map]; exact dg_len hp 100 n hn
      have ed : di p m = ((m % p : Nat) : Int) :: di p (m / p) := by unfold di; rw [dg_s hp hm]; rfl
      refine ⟨by omega, ?_, dv_nat hp (p1000 hq), ⟨m / p, a ++ [((m % p : Nat) : Int)], by push_cast; rfl, ?_⟩, ?_⟩
      · rw [← e, List.length_append] at hl
        show a.length < 16000000
        omega
      · rw [← e, ed]; simp
      · have := div_lt hp hm
        have e3 : ((m : Int) / (p : Int)) = ((m / p : Nat) : Int) := by push_cast; rfl
        simp only [e3, Int.toNat_natCast]; exact this
    · have hm : m = 0 := by simp at ht; omega
      subst hm
      rw [show di p 0 = [] by unfold di; rw [dg_0]; rfl, List.append_nil] at e
      exact e
  · simp only [tt_bnd, tt_pure]; exact h
/-! ### products -/
def fl (p m : Nat) : List Int := (List.range m).map fun i => ((fc i % p : Nat) : Int)
theorem fl_len (p m : Nat) : (fl p m).length = m := by unfold fl; rw [List.length_map, List.length_range]
theorem fl_get {p m i : Nat} (h : i < m) : (fl p m)[i]? = some ((fc i % p : Nat) : Int) := by unfold fl; rw [List.getElem?_map, List.getElem?_range h]; rfl
theorem fl_s (p m : Nat) : fl p (m + 1) = fl p m ++ [((fc m % p : Nat) : Int)] := by unfold fl; rw [List.range_succ, List.map_append]; rfl
theorem atI_nat {α : Type} {xs : List α} {i : Nat} (h : i < xs.length) : atI xs (i : Int) = xs[i]? := by
  unfold atI ixN
  rw [if_pos (by omega), if_pos (by omega)]
  simp
theorem atI_last {α : Type} {xs : List α} {n : Nat} (h : xs.length = n + 1) : atI xs (-1) = xs[n]? := by
  unfold atI ixN
  rw [if_neg (by decide), if_pos (by omega), h]
  show xs[(-1 + ((n + 1 : Nat) : Int)).toNat]? = _
  congr 1
  omega
theorem sm_small {a : Int} (h : a.natAbs ≤ 10 ^ 30) : Sm a := sm_lt h (by decide)
theorem products_body {p x : Nat} (hp : 2 ≤ p) (hq : p < 1000) (hx : 1 ≤ x) (hxp : x < p) {s : Unit} {P : List Int → Unit → Prop} (h : P (fl p (x + 1)) s) :
    Tt s (Mir.lft (L2.atI (fl p x) (-(1 : Int))) >>= fun y72 => Mir.lft (grd (Sm y72 ∧ Sm (x : Int))) >>= fun _ => Mir.lft (grd (0 < (p : Int))) >>= fun _ => Mir.lft (grd (List.length (fl p x) < 16000000)) >>= fun _ => bnd (fl p x ++ [((y72 * (x : Int)) % (p : Int))]) fun found62 => (pure found62 : Option (List Int))) P := by
  obtain ⟨y, rfl⟩ : ∃ y, x = y + 1 := ⟨x - 1, by omega⟩
  rw [tt_lft (show atI (fl p (y + 1)) (-1) = some ((fc y % p : Nat) : Int) by rw [atI_last (fl_len p (y + 1)), fl_get (by omega)])]
  have hm := Nat.mod_lt (fc y) (show p > 0 by omega)
  simp only [tt_grd, tt_bnd, tt_pure]
  refine ⟨⟨sm_small (by omega), sm_small (by omega)⟩, by omega, by rw [fl_len]; omega, ?_⟩
  have e : (((fc y % p : Nat) : Int) * ((y + 1 : Nat) : Int)) % (p : Int) = ((fc (y + 1) % p : Nat) : Int) := by
    rw [fc, Nat.mul_mod (fc y) (y + 1) p]
    have : (fc y % p * (y + 1)) % p = fc y % p * ((y + 1) % p) % p := by
      conv => lhs; rw [Nat.mul_mod, Nat.mod_mod]
    rw [← this]; push_cast; rfl
  rw [e, ← fl_s]; exact h
theorem products_ok {p : Nat} (hp : 2 ≤ p) (hq : p < 1000) : m__law_products p = some (fl p p) := by
  unfold m__law_products
  refine tt_eq (tt_grd.mpr ⟨by omega, tt_grd.mpr ⟨by simp, tt_bnd.mpr (tt_grd.mpr ⟨⟨by decide, ⟨by omega, by omega⟩⟩, ?_⟩)⟩⟩)
  have e1 : [((1 : Int) % (p : Int))] = fl p 1 := by
    unfold fl
    simp [fc]
  rw [e1]
  refine Tt.then (P' := fun st _ => st = fl p p) ?_ fun st _ h => ?_
  · refine Tt.rg (I := fun x st _ => ∃ y : Nat, x = y ∧ 1 ≤ y ∧ st = fl p y) ?_ (p - 1) 1 _ _ (by omega) ⟨1, rfl, by decide, rfl⟩ |>.mono (fun st _ => by
      rintro ⟨y, e, _, rfl⟩
      have : y = p := by omega
      rw [this])
    rintro x st s hx ⟨y, rfl, hy, rfl⟩
    exact products_body hp hq hy (by omega) ⟨y + 1, by omega, by omega, rfl⟩
  · simp only [tt_bnd, tt_pure]; exact h
/-! ### the rest -/
/-- one figure of the rest -/
def rs1 (p n : Nat) (f : Int) : Int := (f * ((fc (n % p) % p : Nat) : Int) * (if n / p % 2 = 1 then (p : Int) - 1 else 1)) % p
def rs (p : Nat) : Nat → Nat → Int → Int
  | 0, _, f => f
  | t + 1, n, f => if n = 0 then f else rs p t (n / p) (rs1 p n f)
theorem rs_s {p t n : Nat} {f : Int} (h : n ≠ 0) : rs p (t + 1) n f = rs p t (n / p) (rs1 p n f) := by rw [rs, if_neg h]
theorem rs1_lt {p n : Nat} {f : Int} (hp : 2 ≤ p) : 0 ≤ rs1 p n f ∧ rs1 p n f < p := ⟨Int.emod_nonneg _ (by omega), Int.emod_lt_of_pos _ (by omega)⟩
theorem neg_mod (x : Int) (p : Int) : (-x) % p = (x * (p - 1)) % p := by
  have : x * (p - 1) = -x + x * p := by rw [Int.mul_sub]; omega
  rw [this, Int.add_mul_emod_self_right]
theorem odd_eq {m : Nat} {p : Nat} : (decide (((m : Int) / (p : Int)) % 2 = 1) = true) ↔ m / p % 2 = 1 := by
  have e3 : ((m : Int) / (p : Int)) = ((m / p : Nat) : Int) := by push_cast; rfl
  rw [e3, decide_eq_true_iff]
  omega
theorem rest_ok {p n T : Nat} (hp : 2 ≤ p) (hq : p < 1000) (hT : T ≤ 100) (hn : n < 2 ^ T) : m__law_rest n p (fl p p) = some (rs p T n 1) ∧ 0 ≤ rs p T n 1 ∧ rs p T n 1 < p := by
  have hr : Tt () (m__law_rest n p (fl p p)) fun a _ => a = rs p T n 1 ∧ 0 ≤ a ∧ a < (p : Int) := by
    unfold m__law_rest
    refine tt_bnd.mpr (Tt.then (P' := fun st _ => st.2 = rs p T n 1 ∧ 0 ≤ st.2 ∧ st.2 < (p : Int)) ?_ fun st _ h => ?_)
    · refine Tt.wh (I := fun (st : Int × Int) _ => ∃ (m t : Nat), st.1 = (m : Int) ∧ m < 2 ^ t ∧ rs p t m st.2 = rs p T n 1 ∧ 0 ≤ st.2 ∧ st.2 < (p : Int)) (nu := fun st => st.1.toNat) ?_ many _ _ ⟨n, T, rfl, hn, rfl, by show (0 : Int) ≤ 1; decide, by show (1 : Int) < p; omega⟩ (lt_many (Nat.lt_of_lt_of_le (by simpa using hn) (Nat.le_trans (Nat.pow_le_pow_right (by decide) hT) (by decide))))
      rintro ⟨st1, f⟩ s k P ⟨m, t, e1, hm2, e, h0, h1⟩ hk
      simp only at e1 e h0 h1
      subst e1
      refine hk _ _ (fun ht => ?_) (fun ht => ?_)
      · have hm : 0 < m := by simpa using ht
        have hmp := Nat.mod_lt m (show p > 0 by omega)
        have e4 : ((m : Int) % (p : Int)) = ((m % p : Nat) : Int) := by push_cast; rfl
        have hy := Nat.mod_lt (fc (m % p)) (show p > 0 by omega)
        simp only [tt_grd]
        refine ⟨by omega, ?_⟩
        rw [tt_lft (show atI (fl p p) ((m : Int) % (p : Int)) = some ((fc (m % p) % p : Nat) : Int) by rw [e4, atI_nat (by rw [fl_len]; exact hmp), fl_get hmp])]
        simp only [tt_grd, tt_bnd, tt_pure]
        have hb : f * ((fc (m % p) % p : Nat) : Int) ≤ 1000000 ∧ 0 ≤ f * ((fc (m % p) % p : Nat) : Int) := by
          have a1 : f * ((fc (m % p) % p : Nat) : Int) ≤ 1000 * 1000 := Int.mul_le_mul (by omega) (by omega) (by omega) (by decide)
          exact ⟨by omega, Int.mul_nonneg h0 (by omega)⟩
        obtain ⟨t, rfl⟩ : ∃ u, t = u + 1 := by
          cases t with
          | zero => simp at hm2; omega
          | succ u => exact ⟨u, rfl⟩
        have e5 : rs1 p m f = (f * ((fc (m % p) % p : Nat) : Int) * (if decide (((m : Int) / (p : Int)) % 2 = 1) = true then (p : Int) - 1 else 1)) % p := by
          unfold rs1
          by_cases z : m / p % 2 = 1
          · rw [if_pos z, if_pos (odd_eq.mpr z)]
          · rw [if_neg z, if_neg (fun y => z (odd_eq.mp y))]
        refine ⟨⟨sm_small (by omega), sm_small (by omega)⟩, dv_nat hp (p1000 hq), by decide, ⟨sm_small (by omega), sm_small (by split <;> omega)⟩, by omega, dv_nat hp (p1000 hq), ⟨m / p, t, by push_cast; rfl, ?_, ?_, ?_, ?_⟩, ?_⟩
        · have h1 : m / p ≤ m / 2 := Nat.div_le_div_left hp (by decide)
          rw [Nat.pow_succ] at hm2
          omega
        · rw [← e, rs_s (by omega), e5]
        · rw [← e5]; exact (rs1_lt hp).1
        · rw [← e5]; exact (rs1_lt hp).2
        · have := div_lt hp hm
          have e3 : ((m : Int) / (p : Int)) = ((m / p : Nat) : Int) := by push_cast; rfl
          simp only [e3, Int.toNat_natCast]; exact this
      · have hm : m = 0 := by simp at ht; omega
        subst hm
        have : rs p t 0 f = f := by cases t <;> simp [rs]
        rw [this] at e
        exact ⟨e, h0, h1⟩
    · simp only [tt_grd, tt_bnd, tt_pure]
      have : st.2 % (p : Int) = st.2 := Int.emod_eq_of_lt h.2.1 h.2.2
      rw [this]
      exact ⟨by omega, h⟩
  obtain ⟨a, e, h⟩ := tt_ex hr
  rw [h.1] at e h
  exact ⟨e, h.2⟩
theorem product_rest_ok {p n T : Nat} (hp : 2 ≤ p) (hq : p < 1000) (hT : T ≤ 100) (hn : n < 2 ^ T) : m_product_rest n p = some (rs p T n 1) := by
  unfold m_product_rest
  refine tt_eq (tt_grd.mpr ⟨by simp, tt_bnd.mpr (tt_grd.mpr ⟨⟨by decide, ⟨by omega, by omega⟩⟩, ?_⟩)⟩)
  have e1 : [(1 : Int)] = fl p 1 := by
    unfold fl
    have : (1 : Int) % (p : Int) = 1 := Int.emod_eq_of_lt (by decide) (by omega)
    simp [fc, this]
  rw [e1]
  refine Tt.then (P' := fun st _ => st = fl p p) ?_ fun st _ h => ?_
  · refine Tt.rg (I := fun x st _ => ∃ y : Nat, x = y ∧ 1 ≤ y ∧ st = fl p y) ?_ (p - 1) 1 _ _ (by omega) ⟨1, rfl, by decide, rfl⟩ |>.mono (fun st _ => by
      rintro ⟨y, e, _, rfl⟩
      have : y = p := by omega
      rw [this])
    rintro x st s hx ⟨y, rfl, hy, rfl⟩
    exact products_body hp hq hy (by omega) ⟨y + 1, by omega, by omega, rfl⟩
  · subst h
    refine tt_bnd.mpr (Tt.then (P' := fun st _ => st.2 = rs p T n 1) ?_ fun st _ h => ?_)
    · refine Tt.wh (I := fun (st : Int × Int) _ => ∃ (m t : Nat), st.1 = (m : Int) ∧ m < 2 ^ t ∧ rs p t m st.2 = rs p T n 1 ∧ 0 ≤ st.2 ∧ st.2 < (p : Int)) (nu := fun st => st.1.toNat) ?_ many _ _ ⟨n, T, rfl, hn, rfl, by show (0 : Int) ≤ 1; decide, by show (1 : Int) < p; omega⟩ (lt_many (Nat.lt_of_lt_of_le (by simpa using hn) (Nat.le_trans (Nat.pow_le_pow_right (by decide) hT) (by decide))))
      rintro ⟨st1, f⟩ s k P ⟨m, t, e1, hm2, e, h0, h1⟩ hk
      simp only at e1 e h0 h1
      subst e1
      refine hk _ _ (fun ht => ?_) (fun ht => ?_)
      · have hm : 0 < m := by simpa using ht
        have hmp := Nat.mod_lt m (show p > 0 by omega)
        have e4 : ((m : Int) % (p : Int)) = ((m % p : Nat) : Int) := by push_cast; rfl
        have hy := Nat.mod_lt (fc (m % p)) (show p > 0 by omega)
        simp only [tt_grd]
        refine ⟨by omega, ?_⟩
        rw [tt_lft (show atI (fl p p) ((m : Int) % (p : Int)) = some ((fc (m % p) % p : Nat) : Int) by rw [e4, atI_nat (by rw [fl_len]; exact hmp), fl_get hmp])]
        simp only [tt_grd, tt_bnd, tt_pure]
        obtain ⟨t, rfl⟩ : ∃ u, t = u + 1 := by
          cases t with
          | zero => simp at hm2; omega
          | succ u => exact ⟨u, rfl⟩
        have e5 : rs1 p m f = (if decide (((m : Int) / (p : Int)) % 2 = 1) = true then -(f * ((fc (m % p) % p : Nat) : Int)) else f * ((fc (m % p) % p : Nat) : Int)) % p := by
          unfold rs1
          by_cases z : m / p % 2 = 1
          · rw [if_pos z, if_pos (odd_eq.mpr z), neg_mod]
          · rw [if_neg z, if_neg (fun y => z (odd_eq.mp y)), Int.mul_one]
        refine ⟨⟨sm_small (by omega), sm_small (by omega)⟩, dv_nat hp (p1000 hq), by decide, by omega, ⟨m / p, t, by push_cast; rfl, ?_, ?_, ?_, ?_⟩, ?_⟩
        · have h1 : m / p ≤ m / 2 := Nat.div_le_div_left hp (by decide)
          rw [Nat.pow_succ] at hm2
          omega
        · rw [← e, rs_s (by omega), e5]
        · rw [← e5]; exact (rs1_lt hp).1
        · rw [← e5]; exact (rs1_lt hp).2
        · have := div_lt hp hm
          have e3 : ((m : Int) / (p : Int)) = ((m / p : Nat) : Int) := by push_cast; rfl
          simp only [e3, Int.toNat_natCast]; exact this
      · have hm : m = 0 := by simp at ht; omega
        subst hm
        have : rs p t 0 f = f := by cases t <;> simp [rs]
        rw [this] at e
        exact e
    · simp only [tt_bnd, tt_pure]
      exact h
end Wk
set_option Elab.async false
set_option maxRecDepth 100000
set_option maxHeartbeats 4000000
set_option linter.all false
namespace Wk
open PySem L2
open PyProof.Rows hiding St
theorem ndiv (m p : Nat) : ((m : Int) / (p : Int)) = ((m / p : Nat) : Int) := by push_cast; rfl
theorem nmod (m p : Nat) : ((m : Int) % (p : Int)) = ((m % p : Nat) : Int) := by push_cast; rfl
/-- places as ints -/
def ci (l : List Nat) : List Int := List.map (fun d : Nat => (d : Int)) l
theorem ci_app (a b : List Nat) : ci (a ++ b) = ci a ++ ci b := List.map_append
theorem ci_len (a : List Nat) : (ci a).length = a.length := List.length_map ..
theorem cr_len (p : Nat) : ∀ t a b c x, (cr p t a b c x).length ≤ t
  | 0, _, _, _, _ => Nat.le_refl _
  | t + 1, a, b, c, x => by
    rw [cr]
    split
    · exact Nat.zero_le _
    · have := cr_len p t (a / p) (b / p) (cy p a b c) (x + 1)
      rw [List.length_append]
      split <;> simp <;> omega
theorem cr_s {p t a b c x : Nat} (h : a + b + c ≠ 0) : cr p (t + 1) a b c x = (if cy p a b c = 1 then [x] else []) ++ cr p t (a / p) (b / p) (cy p a b c) (x + 1) := by rw [cr, if_neg h]
theorem cy_if {p a b c : Nat} : (if decide ((p : Int) ≤ (((a % p : Nat) : Int) + ((b % p : Nat) : Int)) + (c : Int)) = true then (1 : Int) else 0) = ((cy p a b c : Nat) : Int) := by
  unfold cy
  by_cases h : p ≤ a % p + b % p + c
  · rw [if_pos h, if_pos (by rw [decide_eq_true_iff]; omega)]; rfl
  · rw [if_neg h, if_neg (by rw [decide_eq_true_iff]; omega)]; rfl
theorem cy_lt {p a b c t : Nat} (hp : 2 ≤ p) (hc : c ≤ 1) (h : a + b + c < 2 ^ (t + 1)) : a / p + b / p + cy p a b c < 2 ^ t := by
  rw [← (cy_div hp hc).1]
  have h1 : (a + b + c) / p ≤ (a + b + c) / 2 := Nat.div_le_div_left hp (by decide)
  rw [Nat.pow_succ] at h
  omega
theorem carried_places_ok {p a b n T : Nat} (hp : 2 ≤ p) (hq : p < 1000) (hT : T ≤ 100) (hab : a + b = n) (hn : n < 2 ^ T) : m_carried_places n a p = some (ci (cr p T a b 0 0)) := by
  unfold m_carried_places
  have e0 : (n : Int) - (a : Int) = (b : Int) := by omega
  rw [e0]
  refine tt_eq (tt_bnd.mpr (tt_bnd.mpr (tt_bnd.mpr (tt_bnd.mpr (tt_grd.mpr ⟨by simp, tt_bnd.mpr (Tt.then (P' := fun st _ => st.2.2.2.2 = ci (cr p T a b 0 0)) ?_ fun st _ h => ?_)⟩)))))
  · refine Tt.wh (I := fun (st : Int × Int × Int × Int × List Int) _ => ∃ (a' b' c' x t : Nat), st.1 = (a' : Int) ∧ st.2.1 = (b' : Int) ∧ st.2.2.1 = (c' : Int) ∧ st.2.2.2.1 = (x : Int) ∧ c' ≤ 1 ∧ a' + b' + c' < 2 ^ t ∧ st.2.2.2.2 ++ ci (cr p t a' b' c' x) = ci (cr p T a b 0 0))
      (nu := fun st => (st.1 + st.2.1 + st.2.2.1).toNat) ?_ many _ _ ⟨a, b, 0, 0, T, rfl, rfl, rfl, rfl, by decide, by omega, rfl⟩ (lt_many (Nat.lt_of_lt_of_le (by show ((a : Int) + (b : Int) + 0).toNat < 2 ^ T; omega) (Nat.le_trans (Nat.pow_le_pow_right (by decide) hT) (by decide))))
    rintro ⟨s1, s2, s3, s4, l⟩ s k P ⟨a', b', c', x, t, e1, e2, e3, e4, hc, hlt, e⟩ hk
    simp only at e1 e2 e3 e4 e
    subst e1 e2 e3 e4
    refine hk _ _ (fun ht => ?_) (fun ht => ?_)
    · have hm : a' + b' + c' ≠ 0 := by simp at ht; omega
      obtain ⟨t, rfl⟩ : ∃ u, t = u + 1 := by
        cases t with
        | zero => simp at hlt; omega
        | succ u => exact ⟨u, rfl⟩
      simp only [tt_grd, tt_bnd, nmod, ndiv, cy_if]
      refine ⟨by omega, by omega, ?_⟩
      have hl : (ci (cr p T a b 0 0)).length ≤ 100 := by rw [ci_len]; exact Nat.le_trans (cr_len ..) hT
      rw [← e, List.length_append] at hl
      have fin : ∀ l', l' = l ++ ci (if cy p a' b' c' = 1 then [x] else []) →
          ((0 < (p : Int)) ∧ Dv (p : Int)) → (∃ (a'' b'' c'' x' t' : Nat), ((a' / p : Nat) : Int) = (a'' : Int) ∧ ((b' / p : Nat) : Int) = (b'' : Int) ∧ ((cy p a' b' c' : Nat) : Int) = (c'' : Int) ∧ (x : Int) + 1 = (x' : Int) ∧ c'' ≤ 1 ∧ a'' + b'' + c'' < 2 ^ t' ∧ l' ++ ci (cr p t' a'' b'' c'' x') = ci (cr p T a b 0 0)) ∧
            (((a' / p : Nat) : Int) + ((b' / p : Nat) : Int) + ((cy p a' b' c' : Nat) : Int)).toNat < ((a' : Int) + (b' : Int) + (c' : Int)).toNat := by
        rintro l' rfl _
        refine ⟨⟨a' / p, b' / p, cy p a' b' c', x + 1, t, rfl, rfl, rfl, by omega, cy_le .., cy_lt hp hc hlt, ?_⟩, ?_⟩
        · rw [← e, cr_s hm, ci_app, List.append_assoc]
        · have := (cy_div (a := a') (b := b') hp hc).1
          have := div_lt (n := a' + b' + c') hp (by omega)
          omega
      have dv := dv_nat hp (p1000 hq)
      by_cases z : cy p a' b' c' = 1
      · refine Tt.then (P' := fun st _ => st = l ++ [(x : Int)]) ?_ ?_
        · rw [if_pos (by rw [z]; rfl)]
          simp only [tt_grd, tt_bnd, tt_pure]
          exact ⟨by omega, trivial⟩
        · rintro st s1 rfl
          simp only [tt_grd, tt_bnd, tt_pure]
          have := fin (l ++ [(x : Int)]) (by rw [if_pos z]; rfl) ⟨by omega, dv⟩
          exact ⟨dv, dv, this⟩
      · refine Tt.then (P' := fun st _ => st = l) ?_ ?_
        · rw [if_neg (by rw [decide_eq_true_iff]; omega)]
          exact tt_pure.mpr rfl
        · rintro st s1 rfl
          simp only [tt_grd, tt_bnd, tt_pure]
          have := fin st (by rw [if_neg z]; simp [ci]) ⟨by omega, dv⟩
          exact ⟨dv, dv, this⟩
    · have hm : a' = 0 ∧ b' = 0 ∧ c' = 0 := by simp at ht; omega
      obtain ⟨rfl, rfl, rfl⟩ := hm
      rw [cr_z] at e
      simpa [ci] using e
  · simp only [tt_bnd, tt_pure]; exact h
theorem times_in_choice_ok {p a b n T : Nat} (hp : 2 ≤ p) (hq : p < 1000) (hT : T ≤ 100) (hab : a + b = n) (hn : n < 2 ^ T) : m_times_in_choice n a p = some ((cr p T a b 0 0).length : Int) := by
  unfold m_times_in_choice
  refine tt_eq ?_
  rw [tt_lft (carried_places_ok hp hq hT hab hn)]
  simp only [tt_bnd, tt_pure, ci_len]
/-- the law's own carries -/
theorem law_carried_ok {p a b n T : Nat} (hp : 2 ≤ p) (hq : p < 1000) (hT : T ≤ 100) (hab : a + b = n) (hn : n < 2 ^ T) : m__law_carried n a p = some (ci (cr p T a b 0 0)) := by
  have e0 : (n : Int) - (a : Int) = (b : Int) := by omega
  have h100 : (2 : Nat) ^ T ≤ 2 ^ 100 := Nat.pow_le_pow_right (by decide) hT
  unfold m__law_carried
  rw [e0]
  refine tt_eq ?_
  rw [tt_lft (figures_ok hp hq (show a < 2 ^ 100 by omega)), tt_bnd, tt_lft (figures_ok hp hq (show b < 2 ^ 100 by omega))]
  refine tt_bnd.mpr (tt_grd.mpr ⟨by simp, tt_bnd.mpr (tt_bnd.mpr (tt_bnd.mpr ?_))⟩)
  have la : (di p a).length = (dg p a).length := by unfold di; rw [List.length_map]
  have lb : (di p b).length = (dg p b).length := by unfold di; rw [List.length_map]
  have ha := dg_len hp 100 a (by omega)
  have hb := dg_len hp 100 b (by omega)
  obtain ⟨z, hz, hz1, hz2, hz3⟩ : ∃ z : Nat, (if ((di p b).length : Int) > ((di p a).length : Int) then ((di p b).length : Int) else ((di p a).length : Int)) = (z : Int) ∧ (dg p a).length ≤ z ∧ (dg p b).length ≤ z ∧ z ≤ 100 := by
    by_cases q : ((di p b).length : Int) > ((di p a).length : Int)
    · exact ⟨(di p b).length, by rw [if_pos q], by omega, by omega, by omega⟩
    · exact ⟨(di p a).length, by rw [if_neg q], by omega, by omega, by omega⟩
  rw [hz]
  refine tt_grd.mpr ⟨⟨by omega, by omega⟩, Tt.then (P' := fun st _ => st.1 = ci (cr p T a b 0 0)) ?_ fun st _ h => ?_⟩
  · refine (Tt.rg (I := fun (x : Int) (st : List Int × Int) _ => ∃ (y c t : Nat), x = (y : Int) ∧ st.2 = (c : Int) ∧ c ≤ 1 ∧ (z < y → c = 0) ∧ a / p ^ y + b / p ^ y + c < 2 ^ t ∧ st.1 ++ ci (cr p t (a / p ^ y) (b / p ^ y) c y) = ci (cr p T a b 0 0)) ?_ (z + 1) 0 _ _ (by omega) ⟨0, 0, T, rfl, rfl, by decide, by simp, by simp; omega, by simp⟩).mono ?_
    · rintro x ⟨l, m⟩ s hx ⟨y, c, t, rfl, e2, hc, hcz, hlt, e⟩
      simp only at e2 e
      subst e2
      have hyz : y ≤ z := by omega
      have digit : ∀ (w : Nat) (P : Int → Unit → Prop), P ((w / p ^ y % p : Nat) : Int) s → Tt s (if (decide ((y : Int) < ((di p w).length : Int))) = true then Mir.lft (L2.atI (di p w) (y : Int)) >>= fun y157 => (pure y157 : Option Int) else pure (0 : Int)) P := by
        intro w P hP
        have lw : (di p w).length = (dg p w).length := by unfold di; rw [List.length_map]
        by_cases q : y < (dg p w).length
        · rw [if_pos (by rw [decide_eq_true_iff]; omega)]
          rw [tt_lft (show atI (di p w) (y : Int) = some ((w / p ^ y % p : Nat) : Int) by rw [atI_nat (by omega)]; unfold di; rw [List.getElem?_map, (dg_get hp y w).1 q]; rfl)]
          exact tt_pure.mpr hP
        · rw [if_neg (by rw [decide_eq_true_iff]; omega)]
          rw [(dg_get hp y w).2 (by omega), Nat.zero_mod] at hP
          exact tt_pure.mpr hP
      refine tt_bind.mpr (digit a _ (tt_bnd.mpr (tt_bind.mpr (digit b _ (tt_bnd.mpr ?_)))))
      rw [cy_if]
      have hl : (ci (cr p T a b 0 0)).length ≤ 100 := by rw [ci_len]; exact Nat.le_trans (cr_len ..) hT
      rw [← e, List.length_append] at hl
      have da : a / p ^ (y + 1) = a / p ^ y / p := by rw [Nat.pow_succ, Nat.div_div_eq_div_mul]
      have db : b / p ^ (y + 1) = b / p ^ y / p := by rw [Nat.pow_succ, Nat.div_div_eq_div_mul]
      have za := fun h => (dg_get hp y a).2 h
      have zb := fun h => (dg_get hp y b).2 h
      generalize hA : a / p ^ y = A at *
      generalize hB : b / p ^ y = B at *
      have hcz' : z < y + 1 → cy p A B c = 0 := fun h => by
        rw [za (by omega), zb (by omega)]
        unfold cy
        rw [if_neg (by simp; omega)]
      have nxt : ∃ (y' c' t' : Nat), (y : Int) + 1 = (y' : Int) ∧ ((cy p A B c : Nat) : Int) = (c' : Int) ∧ c' ≤ 1 ∧ (z < y' → c' = 0) ∧ a / p ^ y' + b / p ^ y' + c' < 2 ^ t' ∧ (l ++ ci (if cy p A B c = 1 then [y] else [])) ++ ci (cr p t' (a / p ^ y') (b / p ^ y') c' y') = ci (cr p T a b 0 0) := by
        by_cases h0 : A + B + c = 0
        · have : A = 0 ∧ B = 0 ∧ c = 0 := by omega
          obtain ⟨h1, h2, h3⟩ := this
          have hy0 : cy p A B c = 0 := by
            rw [h1, h2, h3]; unfold cy; rw [if_neg (by simp; omega)]
          refine ⟨y + 1, 0, 1, by omega, by rw [hy0], by decide, fun _ => rfl, by rw [da, db, h1, h2]; simp, ?_⟩
          rw [hy0, da, db, h1, h2]
          rw [h1, h2, h3, cr_z] at e
          simp only [Nat.zero_div, cr_z]
          simpa [ci] using e
        · obtain ⟨t, rfl⟩ : ∃ u, t = u + 1 := by
            cases t with
            | zero => simp at hlt; omega
            | succ u => exact ⟨u, rfl⟩
          refine ⟨y + 1, cy p A B c, t, by omega, rfl, cy_le .., hcz', by rw [da, db]; exact cy_lt hp hc hlt, ?_⟩
          rw [← e, cr_s h0, ci_app, da, db, List.append_assoc]
      by_cases q : cy p A B c = 1
      · rw [if_pos q] at nxt
        refine Tt.then (P' := fun st _ => st = [(y : Int)]) ?_ ?_
        · rw [if_pos (by rw [q]; rfl)]
          exact tt_grd.mpr ⟨by simp, tt_pure.mpr rfl⟩
        · rintro st s1 rfl
          simp only [tt_grd, tt_bnd, tt_pure]
          exact ⟨by simp; omega, nxt⟩
      · rw [if_neg q] at nxt
        refine Tt.then (P' := fun st _ => st = []) ?_ ?_
        · rw [if_neg (by rw [decide_eq_true_iff]; omega)]
          exact tt_grd.mpr ⟨by simp, tt_pure.mpr rfl⟩
        · rintro st s1 rfl
          simp only [tt_grd, tt_bnd, tt_pure]
          exact ⟨by simp; omega, nxt⟩
    · rintro ⟨l, m⟩ s ⟨y, c, t, e1, e2, hc, hcz, hlt, e⟩
      have hy : y = z + 1 := by omega
      have : a / p ^ y = 0 := by
        rw [hy, Nat.pow_succ, ← Nat.div_div_eq_div_mul, (dg_get hp z a).2 hz1, Nat.zero_div]
      have h2 : b / p ^ y = 0 := by
        rw [hy, Nat.pow_succ, ← Nat.div_div_eq_div_mul, (dg_get hp z b).2 hz2, Nat.zero_div]
      rw [this, h2, hcz (by omega), cr_z] at e
      simpa [ci] using e
  · simp only [tt_bnd, tt_pure]; exact h
end Wk
set_option Elab.async false
set_option maxRecDepth 100000
set_option maxHeartbeats 4000000
set_option linter.all false
namespace Wk
open PySem L2
open PyProof.Rows hiding St
/-! ### choose -/
theorem two1000 : (2 : Nat) ^ 1000 < 10 ^ 4000 := by decide +kernel
theorem bn_sm {n k : Nat} (hn : n ≤ 1000) : Sm (bn n k : Int) := sm_lt (b := 2 ^ 1000) (by rw [Int.natAbs_natCast]; exact Nat.le_trans (bn_pow n k) (Nat.pow_le_pow_right (by decide) hn)) two1000
theorem choose_body {n x : Nat} (hn : n ≤ 1000) (hx : x < n) {s : Unit} {P : Int → Unit → Prop} (h : P (bn n (x + 1) : Int) s) :
    Tt s (Mir.lft (grd (Sm (bn n x : Int) ∧ Sm ((n : Int) - (x : Int)))) >>= fun _ => Mir.lft (grd (Dv ((x : Int) + (1 : Int)))) >>= fun _ => bnd (((bn n x : Int) * ((n : Int) - (x : Int))) / ((x : Int) + (1 : Int))) fun found76 => (pure found76 : Option Int)) P := by
  simp only [tt_grd, tt_bnd, tt_pure]
  refine ⟨⟨bn_sm hn, sm_small (by omega)⟩, dv_of (by omega) (Int.lt_of_le_of_lt (b := 1000) (by omega) (by decide +kernel)), ?_⟩
  have e : ((bn n x : Int) * ((n : Int) - (x : Int))) / ((x : Int) + (1 : Int)) = (bn n (x + 1) : Int) := by
    have e1 : ((n : Int) - (x : Int)) = ((n - x : Nat) : Int) := by omega
    have e2 : ((x : Int) + 1) = ((x + 1 : Nat) : Int) := by omega
    rw [e1, e2, ← Int.natCast_mul, ← bn_step, ndiv, Nat.mul_div_cancel _ (by omega)]
  rw [e]; exact h
theorem choose_ok {n k : Nat} (hn : n ≤ 1000) (hk : k ≤ 1000) : m_choose n k = some (bn n k : Int) := by
  unfold m_choose
  refine tt_eq ?_
  by_cases h : n < k
  · refine Tt.pos (by rw [decide_eq_true_iff]; omega) ?_
    rw [bn_gt h]
    exact tt_bnd.mpr (tt_pure.mpr rfl)
  · refine Tt.neg (by rw [decide_eq_true_iff]; omega) (tt_bnd.mpr (tt_grd.mpr ⟨⟨by omega, by omega⟩, Tt.then (P' := fun st _ => st = (bn n k : Int)) ?_ fun st _ h => ?_⟩))
    · refine (Tt.rg (I := fun (x : Int) (st : Int) _ => ∃ y : Nat, x = y ∧ st = (bn n y : Int)) ?_ k 0 _ _ (by omega) ⟨0, rfl, by rw [bn_z]; rfl⟩).mono (fun st _ => by
        rintro ⟨y, e, rfl⟩
        have : y = k := by omega
        rw [this])
      rintro x st s hx ⟨y, rfl, rfl⟩
      exact choose_body hn (by omega) ⟨y + 1, by omega, rfl⟩
    · simp only [tt_bnd, tt_pure]; exact h
theorem law_choose_ok {n k : Nat} (hn : n ≤ 1000) (hk : k ≤ n) : m__law_choose n k = some (bn n k : Int) := by
  unfold m__law_choose
  refine tt_eq (tt_bnd.mpr (tt_grd.mpr ⟨⟨by omega, by omega⟩, Tt.then (P' := fun st _ => st = (bn n k : Int)) ?_ fun st _ h => ?_⟩))
  · refine (Tt.rg (I := fun (x : Int) (st : Int) _ => ∃ y : Nat, x = y ∧ st = (bn n y : Int)) ?_ k 0 _ _ (by omega) ⟨0, rfl, by rw [bn_z]; rfl⟩).mono (fun st _ => by
      rintro ⟨y, e, rfl⟩
      have : y = k := by omega
      rw [this])
    rintro x st s hx ⟨y, rfl, rfl⟩
    exact choose_body hn (by omega) ⟨y + 1, by omega, rfl⟩
  · simp only [tt_bnd, tt_pure]
    rw [if_pos (by rw [decide_eq_true_iff]; omega)]; exact h
theorem choice_rest_ok {p n k T : Nat} (hp : 2 ≤ p) (hq : p < 1000) (hT : T ≤ 100) (hn : n < 2 ^ T) : m_choice_rest n k p = some (wl p T n k 1 : Int) := by
  unfold m_choice_rest
  refine tt_eq (tt_bnd.mpr (Tt.then (P' := fun st _ => st.2.2 = (wl p T n k 1 : Int)) ?_ fun st _ h => ?_))
  · refine Tt.wh (I := fun (st : Int × Int × Int) _ => ∃ (m j f t : Nat), st = ((m : Int), (j : Int), (f : Int)) ∧ f < p ∧ m < 2 ^ t ∧ wl p t m j f = wl p T n k 1) (nu := fun st => st.1.toNat) ?_ many _ _ ⟨n, k, 1, T, rfl, by omega, hn, rfl⟩ (lt_many (Nat.lt_of_lt_of_le (by simpa using hn) (Nat.le_trans (Nat.pow_le_pow_right (by decide) hT) (by decide))))
    rintro st s K P ⟨m, j, f, t, rfl, hf, hlt, e⟩ hk
    refine hk _ _ (fun ht => ?_) (fun ht => ?_)
    · have hm : 0 < m ∧ 0 < f := by simpa using ht
      obtain ⟨t, rfl⟩ : ∃ u, t = u + 1 := by
        cases t with
        | zero => simp at hlt; omega
        | succ u => exact ⟨u, rfl⟩
      have h1 := Nat.mod_lt m (show p > 0 by omega)
      have h2 := Nat.mod_lt j (show p > 0 by omega)
      simp only [tt_grd, nmod, ndiv]
      refine ⟨by omega, by omega, ?_⟩
      rw [tt_lft (choose_ok (by omega) (by omega))]
      simp only [tt_grd, tt_bnd, tt_pure]
      have e3 : (f : Int) * (bn (m % p) (j % p) : Int) % (p : Int) = ((f * bn (m % p) (j % p) % p : Nat) : Int) := by push_cast; rfl
      rw [e3]
      refine ⟨⟨sm_small (by omega), bn_sm (by omega)⟩, by omega, dv_nat hp (p1000 hq), dv_nat hp (p1000 hq), ⟨m / p, j / p, _, t, rfl, Nat.mod_lt _ (by omega), ?_, ?_⟩, ?_⟩
      · have h1 : m / p ≤ m / 2 := Nat.div_le_div_left hp (by decide)
        rw [Nat.pow_succ] at hlt
        omega
      · rw [← e, wl, if_neg (by omega)]
      · have := div_lt hp hm.1
        show (((m / p : Nat) : Int)).toNat < ((m : Int)).toNat
        omega
    · have hm : m = 0 ∨ f = 0 := by
        simp at ht
        by_cases z : m = 0
        · exact .inl z
        · have := ht (by omega); omega
      have : wl p t m j f = f := by
        cases t with
        | zero => rfl
        | succ t => rw [wl, if_pos hm]
      rw [this] at e
      show (f : Int) = _
      rw [e]
  · simp only [tt_bnd, tt_pure]; exact h
/-! ### powers -/
theorem mulmod (a b p : Nat) : ((a : Int) * (b : Int)) % (p : Int) = ((a * b % p : Nat) : Int) := by push_cast; rfl
theorem power_ok {a k m : Nat} (hm0 : 0 < m) (hm : m < 1000) (hk : k < 10 ^ 40) : m__law_power a k m = some ((a ^ k % m : Nat) : Int) := by
  unfold m__law_power
  refine tt_eq (tt_grd.mpr ⟨by omega, tt_bnd.mpr (tt_grd.mpr ⟨by omega, tt_bnd.mpr (Tt.then (P' := fun st _ => st.2.1 = ((a ^ k % m : Nat) : Int)) ?_ fun st _ h => ?_)⟩)⟩)
  · have e1 : (1 : Int) % (m : Int) = ((1 % m : Nat) : Int) := by push_cast; rfl
    rw [e1, nmod]
    refine Tt.wh (I := fun (st : Int × Int × Int) _ => ∃ (j f o : Nat), st = ((j : Int), (f : Int), (o : Int)) ∧ f < m ∧ o < m ∧ f * o ^ j % m = a ^ k % m) (nu := fun st => st.1.toNat) ?_ many _ _ ⟨k, 1 % m, a % m, rfl, Nat.mod_lt _ hm0, Nat.mod_lt _ hm0, ?_⟩ (lt_many (by simpa using hk))
    · rintro st s K P ⟨j, f, o, rfl, hf, ho, e⟩ hk
      refine hk _ _ (fun ht => ?_) (fun ht => ?_)
      · have hj : 0 < j := by simpa using ht
        refine tt_grd.mpr ⟨by decide, Tt.then (P' := fun st _ => st = ((if j % 2 = 1 then f * o % m else f : Nat) : Int)) ?_ ?_⟩
        · by_cases z : j % 2 = 1
          · rw [if_pos (show (decide ((j : Int) % 2 = 1) = true) by rw [decide_eq_true_iff]; omega)]
            simp only [tt_grd, tt_bnd, tt_pure]
            refine ⟨⟨sm_small (by omega), sm_small (by omega)⟩, by omega, ?_⟩
            rw [mulmod, if_pos z]
          · rw [if_neg (show ¬ (decide ((j : Int) % 2 = 1) = true) by rw [decide_eq_true_iff]; omega)]
            rw [if_neg z]; exact tt_pure.mpr rfl
        · rintro st s1 rfl
          simp only [tt_grd, tt_bnd, tt_pure]
          have e2 : (j : Int) / 2 = ((j / 2 : Nat) : Int) := by omega
          rw [mulmod, e2]
          refine ⟨⟨sm_small (by omega), sm_small (by omega)⟩, by omega, dv_of (by decide) (by decide +kernel), ⟨j / 2, _, _, rfl, ?_, Nat.mod_lt _ hm0, ?_⟩, ?_⟩
          · split
            · exact Nat.mod_lt _ hm0
            · exact hf
          · have key : ∀ g, g * (o * o % m) ^ (j / 2) % m = g * o ^ (2 * (j / 2)) % m := fun g => by
              rw [Nat.mul_mod, ← Nat.pow_mod, ← Nat.mul_mod, Nat.pow_mul, Nat.pow_two]
            rw [key, ← e]
            by_cases z : j % 2 = 1
            · rw [if_pos z]
              have : j = 2 * (j / 2) + 1 := by omega
              have e4 : o ^ j = o * o ^ (2 * (j / 2)) := by
                conv => lhs; rw [this]
                rw [Nat.pow_succ, Nat.mul_comm]
              rw [e4, ← Nat.mul_assoc, Nat.mul_mod, Nat.mod_mod, ← Nat.mul_mod]
            · rw [if_neg z]
              have : 2 * (j / 2) = j := by omega
              rw [this]
          · show (((j / 2 : Nat) : Int)).toNat < ((j : Int)).toNat
            omega
      · have hj : j = 0 := by simp at ht; omega
        subst hj
        show (f : Int) = _
        rw [← e, Nat.pow_zero, Nat.mul_one, Nat.mod_eq_of_lt hf]
    · rw [Nat.mul_mod, Nat.mod_mod, ← Nat.pow_mod, ← Nat.mul_mod, Nat.one_mul]
  · simp only [tt_bnd, tt_pure]; exact h
theorem raised_ok {a k : Nat} (ha : a < 1000) (hk : k ≤ 100) : m__law_raised a k = some ((a ^ k : Nat) : Int) := by
  have big : ∀ y, y ≤ k → a ^ y < 10 ^ 4000 := fun y hy => Nat.lt_of_le_of_lt (Nat.le_trans (Nat.pow_le_pow_left (show a ≤ 1000 by omega) y) (Nat.pow_le_pow_right (by decide) (show y ≤ 100 by omega))) (by decide +kernel)
  unfold m__law_raised
  refine tt_eq (tt_bnd.mpr (tt_grd.mpr ⟨⟨by omega, by omega⟩, Tt.then (P' := fun st _ => st = ((a ^ k : Nat) : Int)) ?_ fun st _ h => ?_⟩))
  · refine (Tt.rg (I := fun (x : Int) (st : Int) _ => ∃ y : Nat, x = y ∧ st = ((a ^ y : Nat) : Int)) ?_ k 0 _ _ (by omega) ⟨0, rfl, by rw [Nat.pow_zero]; rfl⟩).mono (fun st _ => by
      rintro ⟨y, e, rfl⟩
      have : y = k := by omega
      rw [this])
    rintro x st s hx ⟨y, rfl, rfl⟩
    simp only [tt_grd, tt_bnd, tt_pure]
    refine ⟨⟨sm_lt (b := a ^ y) (by rw [Int.natAbs_natCast]; exact Nat.le_refl _) (big y (by omega)), sm_small (by omega)⟩, y + 1, by omega, ?_⟩
    rw [Nat.pow_succ, Int.natCast_mul]
  · simp only [tt_bnd, tt_pure]; exact h
/-! ### the law's own choices -/
theorem div_z {k p : Nat} (h : k = 0) : k / p = 0 ∧ k % p = 0 := by subst h; simp
theorem wl_k0 {p : Nat} (hp : 2 ≤ p) : ∀ (t n f : Nat), f < p → wl p t n 0 f = f
  | 0, _, _, _ => rfl
  | t + 1, n, f, hf => by
    rw [wl]
    split
    · rfl
    · rw [Nat.zero_div, Nat.zero_mod, bn_z, Nat.mul_one, Nat.mod_eq_of_lt hf]
      exact wl_k0 hp t _ f hf
theorem le_div {k n p : Nat} (h : k ≤ n) : k / p ≤ n / p := Nat.div_le_div_right h
theorem law_choice_rest_ok {p n k T : Nat} (h : FL p) (hq : p < 1000) (hT : T ≤ 100) (hkn : k ≤ n) (hn : n < 2 ^ T) : m__law_choice_rest n k p (fl p p) = some (wl p T n k 1 : Int) := by
  have hp := h.1
  unfold m__law_choice_rest
  refine tt_eq (tt_bnd.mpr (Tt.then (P' := fun o _ => match o with | .go st => st.2.2 = (wl p T n k 1 : Int) ∧ st.2.2 < p ∧ 0 ≤ st.2.2 | .brk _ => False | .ret r => r = (wl p T n k 1 : Int)) ?_ fun o _ h => ?_))
  · refine Tt.whC (I := fun (st : Int × Int × Int) _ => ∃ (m j f t : Nat), st = ((m : Int), (j : Int), (f : Int)) ∧ f < p ∧ j ≤ m ∧ m < 2 ^ t ∧ wl p t m j f = wl p T n k 1) (nu := fun st => st.2.1.toNat) ?_ many _ _ ⟨n, k, 1, T, rfl, by omega, hkn, hn, rfl⟩ (lt_many (Nat.lt_of_lt_of_le (by show ((k : Int)).toNat < 2 ^ T; omega) (Nat.le_trans (Nat.pow_le_pow_right (by decide) hT) (by decide))))
    rintro st s K P ⟨m, j, f, t, rfl, hf, hjm, hlt, e⟩ hk
    refine hk _ _ (fun ht => ?_) (fun ht => ?_)
    · have hj : 0 < j := by simpa using ht
      obtain ⟨t, rfl⟩ : ∃ u, t = u + 1 := by
        cases t with
        | zero => simp at hlt; omega
        | succ u => exact ⟨u, rfl⟩
      have h1 := Nat.mod_lt m (show p > 0 by omega)
      have h2 := Nat.mod_lt j (show p > 0 by omega)
      simp only [tt_grd, tt_bnd, nmod, ndiv]
      refine ⟨by omega, by omega, ?_⟩
      by_cases z : m % p < j % p
      · refine Tt.pos (by rw [decide_eq_true_iff]; omega) (tt_pure.mpr ?_)
        show (0 : Int) = _
        rw [← e, wl]
        by_cases z0 : f = 0
        · rw [if_pos (.inr z0), z0]; rfl
        · rw [if_neg (by omega), bn_gt z, Nat.mul_zero, Nat.zero_mod, wl_0]; rfl
      · refine Tt.neg (by rw [decide_eq_true_iff]; omega) ?_
        have e5 : ((m % p : Nat) : Int) - ((j % p : Nat) : Int) = ((m % p - j % p : Nat) : Int) := by omega
        rw [tt_lft (show atI (fl p p) ((j % p : Nat) : Int) = some ((fc (j % p) % p : Nat) : Int) by rw [atI_nat (by rw [fl_len]; exact h2), fl_get h2])]
        rw [e5, tt_lft (show atI (fl p p) ((m % p - j % p : Nat) : Int) = some ((fc (m % p - j % p) % p : Nat) : Int) by rw [atI_nat (by rw [fl_len]; omega), fl_get (by omega)])]
        have b1 := Nat.mod_lt (fc (j % p)) (show p > 0 by omega)
        have b2 := Nat.mod_lt (fc (m % p - j % p)) (show p > 0 by omega)
        have b3 := Nat.mod_lt (fc (m % p)) (show p > 0 by omega)
        refine tt_grd.mpr ⟨⟨sm_small (by omega), sm_small (by omega)⟩, tt_bnd.mpr (Tt.then (P' := fun g _ => g = ((f * bn (m % p) (j % p) % p : Nat) : Int)) ?_ ?_)⟩
        · by_cases z2 : 2 < p
          · refine Tt.pos (by rw [decide_eq_true_iff]; omega) ?_
            rw [tt_lft (show atI (fl p p) ((m % p : Nat) : Int) = some ((fc (m % p) % p : Nat) : Int) by rw [atI_nat (by rw [fl_len]; exact h1), fl_get h1])]
            refine tt_grd.mpr ⟨⟨sm_small (by omega), sm_small (by omega)⟩, ?_⟩
            have e6 : ((fc (j % p) % p : Nat) : Int) * ((fc (m % p - j % p) % p : Nat) : Int) = (((fc (j % p) % p) * (fc (m % p - j % p) % p) : Nat) : Int) := by push_cast; rfl
            have e7 : (p : Int) - 2 = ((p - 2 : Nat) : Int) := by omega
            rw [e6, e7, tt_lft (power_ok (by omega) hq (by omega))]
            have b4 := Nat.mod_lt ((fc (j % p) % p * (fc (m % p - j % p) % p)) ^ (p - 2)) (show p > 0 by omega)
            have b5 : f * (fc (m % p) % p) ≤ 1000 * 1000 := Nat.mul_le_mul (by omega) (by omega)
            have e8 : (f : Int) * ((fc (m % p) % p : Nat) : Int) = ((f * (fc (m % p) % p) : Nat) : Int) := by push_cast; rfl
            refine tt_grd.mpr ⟨⟨by rw [e8]; exact sm_small (by omega), sm_small (by omega)⟩, tt_grd.mpr ⟨by omega, tt_pure.mpr ?_⟩⟩
            rw [e8, mulmod, Nat.mul_mod f (bn _ _), FL.choice h h1 (by omega)]
            congr 1
            rw [← Nat.mul_mod f, Nat.mul_assoc]
          · refine Tt.neg (by rw [decide_eq_true_iff]; omega) (tt_pure.mpr ?_)
            have hp2 : p = 2 := by omega
            subst hp2
            have : bn (m % 2) (j % 2) = 1 := by
              have : m % 2 = 0 ∨ m % 2 = 1 := by omega
              have : j % 2 = 0 ∨ j % 2 = 1 := by omega
              have : m % 2 = 1 ∨ j % 2 = 0 := by omega
              rcases ‹m % 2 = 0 ∨ m % 2 = 1› with h | h <;> rcases ‹j % 2 = 0 ∨ j % 2 = 1› with h' | h' <;> rw [h, h'] <;> first | rfl | omega
            rw [this, Nat.mul_one, Nat.mod_eq_of_lt hf]
        · rintro g s1 rfl
          simp only [tt_grd, tt_bnd, tt_pure]
          refine ⟨dv_nat hp (p1000 hq), dv_nat hp (p1000 hq), ⟨m / p, j / p, _, t, rfl, Nat.mod_lt _ (by omega), le_div hjm, ?_, ?_⟩, ?_⟩
          · have h1 : m / p ≤ m / 2 := Nat.div_le_div_left hp (by decide)
            rw [Nat.pow_succ] at hlt
            omega
          · rw [← e]
            by_cases z0 : f = 0
            · subst z0; rw [Nat.zero_mul, Nat.zero_mod, wl_0, wl_0]
            · conv => rhs; rw [wl, if_neg (by omega)]
          · have := div_lt hp hj
            show (((j / p : Nat) : Int)).toNat < ((j : Int)).toNat
            omega
    · have hj : j = 0 := by simp at ht; omega
      subst hj
      rw [wl_k0 hp t m f hf] at e
      show (f : Int) = _ ∧ (f : Int) < p ∧ (0 : Int) ≤ f
      rw [e] at hf ⊢
      exact ⟨rfl, by omega, by omega⟩
  · cases o with
    | go st =>
      show Tt () (Mir.lft (grd (0 < (p : Int))) >>= fun _ => bnd (st.2.2 % (p : Int)) fun r157 => (pure r157 : Option Int)) _
      simp only [tt_grd, tt_bnd, tt_pure]
      refine ⟨by omega, ?_⟩
      rw [Int.emod_eq_of_lt h.2.2 h.2.1]; exact h.1
    | brk st => exact h.elim
    | ret r => exact tt_pure.mpr h
end Wk
set_option Elab.async false
set_option maxRecDepth 1000000
set_option maxHeartbeats 4000000
set_option linter.all false
namespace Wk
open PySem L2
open PyProof.Rows hiding St
/-! A4: what is gone through -/
def isP (n : Nat) : Bool := decide (2 ≤ n) && (List.range 45).all fun d => decide (d < 2) || decide (n ≤ d) || decide (n % d ≠ 0)
def prs : List Nat := (List.range 1000).filter isP
theorem prs_law : ∀ x ∈ List.range 998, m__law_is_prime ((x : Int) + 2) = some (isP (x + 2)) := by decide +kernel
theorem prs_FL : ∀ p ∈ prs, ∀ x ∈ List.range p, x = 0 ∨ x ^ (p - 1) % p = 1 := by decide +kernel
theorem FL_of {p : Nat} (h : isP p = true) (hq : p < 1000) : FL p := by
  have hm : p ∈ prs := List.mem_filter.mpr ⟨List.mem_range.mpr hq, h⟩
  have h2 : 2 ≤ p := by
    unfold isP at h
    have := (Bool.and_eq_true_iff.mp h).1
    exact of_decide_eq_true this
  refine ⟨h2, fun x hx hxp => ?_⟩
  rcases prs_FL p hm x (List.mem_range.mpr hxp) with e | e
  · omega
  · exact e
/-- the numbers below sixty, gone through -/
def part (p n : Nat) : Nat := fc n / p ^ lg p n
theorem small_rest : ∀ p ∈ (List.range 60).filter isP, ∀ n ∈ List.range 60, rs p 6 n 1 = ((fc n / p ^ lg p n % p : Nat) : Int) := by decide +kernel
theorem small_lucas : ∀ p ∈ (List.range 60).filter isP, ∀ n ∈ List.range 60, ∀ k ∈ List.range (n + 1), bn n k % p = wl p 6 n k 1 := by decide +kernel
theorem bases : ∀ b ∈ List.range 999, (m_primes_of ((b : Int) + 2) = m__law_parting ((b : Int) + 2) ∧ ((m__law_parting ((b : Int) + 2)).elim false fun l => !l.isEmpty && decide (l.length ≤ 20) && l.all fun y => decide (2 ≤ y.1) && decide (y.1 < 1000) && decide (1 ≤ y.2) && decide (y.2 < 1000)) = true) := by decide +kernel
end Wk
set_option Elab.async false
set_option maxRecDepth 100000
set_option maxHeartbeats 4000000
set_option linter.all false
namespace Wk
open PySem L2
open PyProof.Rows hiding St
/-! A5: primes to some thousands, two ways -/
theorem rs_pos {a b c : Int} (hc : 0 < c) : Builtin.Range.rangeSize a b c = if a < b then (b - a - 1) / c + 1 else 0 := by
  unfold Builtin.Range.rangeSize
  rw [if_pos (by omega)]
theorem mem_rng3 {a b c x : Int} (hc : 0 < c) : x ∈ rng3 a b c ↔ ∃ k : Nat, x = a + (k : Int) * c ∧ x < b := by
  unfold rng3
  rw [rs_pos hc, List.mem_map]
  constructor
  · rintro ⟨k, hk, rfl⟩
    refine ⟨k, rfl, ?_⟩
    have hk := List.mem_range.mp hk
    by_cases h : a < b
    · rw [if_pos h] at hk
      have : (k : Int) ≤ (b - a - 1) / c := by omega
      have := (Int.le_ediv_iff_mul_le hc).mp this
      omega
    · rw [if_neg h] at hk
      simp at hk
  · rintro ⟨k, rfl, hx⟩
    have h0 : 0 ≤ (k : Int) * c := Int.mul_nonneg (by omega) (by omega)
    refine ⟨k, List.mem_range.mpr ?_, rfl⟩
    rw [if_pos (by omega)]
    have : (k : Int) ≤ (b - a - 1) / c := (Int.le_ediv_iff_mul_le hc).mpr (by omega)
    omega
theorem rg3_ok {a b c : Int} (hc : 0 < c) (hc2 : c < 1000000) (ha : 0 ≤ a) (ha2 : a < 2 ^ 60) (hb : 0 ≤ b) (hb2 : b < 2 ^ 60) : Rg3 a b c := by
  have hq : 0 ≤ (b - a - 1) / c ∨ ¬ a < b := by
    by_cases h : a < b
    · exact .inl (Int.ediv_nonneg (by omega) (by omega))
    · exact .inr h
  have hq2 : (b - a - 1) / c ≤ 2 ^ 60 ∨ ¬ a < b := by
    by_cases h : a < b
    · refine .inl (Int.le_trans (Int.ediv_le_self _ (by omega)) (by omega))
    · exact .inr h
  refine ⟨by omega, by omega, ?_, ?_⟩
  · unfold Builtin.Range.small
    rw [rs_pos hc]
    simp only [Builtin.Range.rangeFitsLong, Bool.and_eq_true, Bool.or_eq_true, decide_eq_true_eq, beq_iff_eq, show c > 0 from hc, if_true]
    generalize (b - a - 1) / c = q at *
    split <;> omega
  · rw [rs_pos hc]
    generalize (b - a - 1) / c = q at *
    split <;> omega
theorem nmod' (m p : Nat) : ((m : Int) % (p : Int)) = ((m % p : Nat) : Int) := by push_cast; rfl
/-! ### primes -/
def Pr (n : Nat) : Prop := 2 ≤ n ∧ ∀ d, 2 ≤ d → d < n → n % d ≠ 0
def prB (n : Nat) : Bool := decide (2 ≤ n) && (List.range n).all fun d => decide (d < 2) || decide (n % d ≠ 0)
theorem prB_iff {n : Nat} : prB n = true ↔ Pr n := by
  unfold prB Pr
  rw [Bool.and_eq_true_iff, decide_eq_true_iff, List.all_eq_true]
  refine and_congr_right fun _ => ⟨fun h d h1 h2 => ?_, fun h d hd => ?_⟩
  · have := h d (List.mem_range.mpr h2)
    simp at this
    omega
  · have hd := List.mem_range.mp hd
    by_cases h1 : d < 2
    · simp [h1]
    · simp; exact .inr (h d (by omega) hd)
/-- a divisor that is prime -/
theorem pr_div : ∀ n : Nat, 2 ≤ n → ∃ q, Pr q ∧ n % q = 0 := by
  intro n
  induction n using Nat.strongRecOn with
  | _ n ih =>
    intro h2
    by_cases h : Pr n
    · exact ⟨n, h, Nat.mod_self n⟩
    · have : ∃ d, 2 ≤ d ∧ d < n ∧ n % d = 0 := Classical.byContradiction fun hn => h ⟨h2, fun d h1 h3 h4 => hn ⟨d, h1, h3, h4⟩⟩
      obtain ⟨d, h1, h3, h4⟩ := this
      obtain ⟨q, hq, e⟩ := ih d h3 h1
      exact ⟨q, hq, Nat.mod_eq_zero_of_dvd (Nat.dvd_trans (Nat.dvd_of_mod_eq_zero e) (Nat.dvd_of_mod_eq_zero h4))⟩
/-- the primes below x -/
def pn (x : Nat) : List Nat := (List.range x).filter prB
def pl (x : Nat) : List Int := List.map (fun d : Nat => (d : Int)) (pn x)
theorem pn_s (x : Nat) : pn (x + 1) = pn x ++ (if prB x = true then [x] else []) := by
  unfold pn
  rw [List.range_succ, List.filter_append]
  by_cases h : prB x = true
  · rw [if_pos h]; simp [h]
  · rw [if_neg h]; simp [h]
theorem pl_s (x : Nat) : pl (x + 1) = pl x ++ (if prB x = true then [(x : Int)] else []) := by
  unfold pl
  rw [pn_s, List.map_append]
  split <;> rfl
theorem mem_pn {x q : Nat} : q ∈ pn x ↔ q < x ∧ Pr q := by
  unfold pn
  rw [List.mem_filter, List.mem_range, prB_iff]
theorem pn_len (x : Nat) : (pn x).length ≤ x := by
  unfold pn
  exact Nat.le_trans (List.length_filter_le ..) (by rw [List.length_range]; exact Nat.le_refl _)
theorem pl_len (x : Nat) : (pl x).length ≤ x := by unfold pl; rw [List.length_map]; exact pn_len x
/-- none of the lesser primes divides it -/
theorem pr_by {x : Nat} (hx : 2 ≤ x) : (∀ q ∈ pn x, x % q ≠ 0) ↔ prB x = true := by
  rw [prB_iff]
  constructor
  · intro h
    refine ⟨hx, fun d h1 h2 h3 => ?_⟩
    obtain ⟨q, hq, e⟩ := pr_div d h1
    have hqd : q ≤ d := Nat.le_of_dvd (by omega) (Nat.dvd_of_mod_eq_zero e)
    exact h q (mem_pn.mpr ⟨by omega, hq⟩) (Nat.mod_eq_zero_of_dvd (Nat.dvd_trans (Nat.dvd_of_mod_eq_zero e) (Nat.dvd_of_mod_eq_zero h3)))
  · intro h q hq
    obtain ⟨h1, h2⟩ := mem_pn.mp hq
    exact h.2 q h2.1 h1
theorem primes_to_ok {n : Nat} (hn : n ≤ 100000) : m_primes_to n = some (pl (n + 1)) := by
  unfold m_primes_to
  refine tt_eq (tt_grd.mpr ⟨by simp, tt_bnd.mpr (tt_grd.mpr ⟨⟨by decide, ⟨by omega, by omega⟩⟩, Tt.then (P' := fun st _ => st = pl (n + 1)) ?_ fun st _ h => ?_⟩)⟩)
  · by_cases h2 : n < 2
    · rw [rng_no (by omega)]
      refine tt_pure.mpr ?_
      have : n = 0 ∨ n = 1 := by omega
      rcases this with rfl | rfl <;> rfl
    refine (Tt.rg (I := fun (x : Int) (st : List Int) _ => ∃ y : Nat, x = y ∧ 2 ≤ y ∧ st = pl y) ?_ (n - 1) 2 _ _ (by omega) ⟨2, rfl, by decide, rfl⟩).mono (fun st _ => by
      rintro ⟨y, e, _, rfl⟩
      have : y = n + 1 := by omega
      rw [this])
    rintro x st s hx ⟨y, rfl, hy, rfl⟩
    have hl := pl_len y
    refine tt_grd.mpr ⟨by omega, ?_⟩
    refine tt_map (g := fun (x62 : Int) => !decide (((y : Int) % x62) = 0)) (fun q hq s Q h => ?_) ?_
    · obtain ⟨q, hq', rfl⟩ := List.mem_map.mp hq
      have := (mem_pn.mp hq').2.1
      exact tt_grd.mpr ⟨by omega, tt_pure.mpr h⟩
    · have e1 : ((List.map (fun (x62 : Int) => !decide (((y : Int) % x62) = 0)) (pl y)).all id = true) ↔ prB y = true := by
        rw [← pr_by hy, List.all_eq_true]
        unfold pl
        simp only [List.mem_map, List.map_map, forall_exists_index, and_imp]
        constructor
        · intro h q hq e
          have := h _ q hq rfl
          simp at this
          rw [nmod', e] at this
          simp at this
        · rintro h _ q hq rfl
          simp
          rw [nmod']
          have := h q hq
          omega
      by_cases hpr : prB y = true
      · refine Tt.pos (e1.mpr hpr) ?_
        refine tt_grd.mpr ⟨by omega, tt_bnd.mpr (tt_pure.mpr ⟨y + 1, by omega, by omega, ?_⟩)⟩
        rw [pl_s y, if_pos hpr]
      · refine Tt.neg (fun h => hpr (e1.mp h)) (tt_pure.mpr ⟨y + 1, by omega, by omega, ?_⟩)
        rw [pl_s y, if_neg hpr, List.append_nil]
  · simp only [tt_bnd, tt_pure]; exact h
/-! ### the sieve -/
/-- what is struck before p's turn -/
def str (p i : Nat) : Prop := ∃ q, 2 ≤ q ∧ q < p ∧ q * q ≤ i ∧ i % q = 0
theorem strike : ∀ (xs : List Int) (l : List Bool), (∀ x ∈ xs, 0 ≤ x ∧ x.toNat < l.length) → ∀ {s : Unit}, Tt s (lpS xs (fun (x72 : Int) (st70 : List Bool) =>
    Mir.lft (ixN (List.length st70) x72) >>= fun o130 => bnd (List.set st70 o130 false) fun flags120 => (pure flags120 : Option (List Bool))) l) fun l' _ => l'.length = l.length ∧ ∀ i : Nat, i < l.length → (l'[i]? = some true ↔ l[i]? = some true ∧ (i : Int) ∉ xs)
  | [], l, _, s => tt_pure.mpr ⟨rfl, fun i hi => by simp⟩
  | x :: xs, l, h, s => by
    obtain ⟨h1, h2⟩ := h x (List.mem_cons_self ..)
    refine Tt.then (P' := fun l' _ => l' = l.set x.toNat false) ?_ ?_
    · rw [tt_lft (show ixN l.length x = some x.toNat by unfold ixN; rw [if_pos h1, if_pos (by omega)])]
      exact tt_bnd.mpr (tt_pure.mpr rfl)
    · rintro l' s1 rfl
      refine (strike xs (l.set x.toNat false) (fun y hy => ?_)).mono fun l' s2 ⟨e1, e2⟩ => ?_
      · rw [List.length_set]; exact h y (List.mem_cons_of_mem _ hy)
      · rw [List.length_set] at e1 e2
        refine ⟨e1, fun i hi => ?_⟩
        rw [e2 i hi, List.getElem?_set]
        by_cases z : x.toNat = i
        · rw [if_pos z, if_pos (by omega)]
          have : (i : Int) = x := by omega
          rw [this]; simp
        · rw [if_neg z]
          have : (i : Int) ≠ x := by omega
          simp [this]
theorem str_pr {m p i : Nat} (hpp : m < p * p) (him : i ≤ m) (h2 : 2 ≤ i) : ¬ str p i ↔ prB i = true := by
  rw [prB_iff]
  constructor
  · intro h
    refine ⟨h2, fun d h1 h3 h4 => h ?_⟩
    -- the lesser one of d and i / d
    have e := Nat.div_add_mod i d
    rw [h4, Nat.add_zero] at e
    generalize i / d = g at *
    have hd2 : 2 ≤ g := by
      rcases Nat.lt_or_ge g 2 with hh | hh
      · have : g = 0 ∨ g = 1 := by omega
        rcases this with z | z <;> rw [z] at e <;> simp at e <;> omega
      · exact hh
    by_cases hc : d ≤ g
    · have : d * d ≤ i := by
        have := Nat.mul_le_mul_left d hc
        omega
      refine ⟨d, h1, ?_, this, h4⟩
      exact Nat.lt_of_not_le fun hh => by
        have := Nat.mul_le_mul hh hh
        omega
    · have : g * g ≤ i := by
        have := Nat.mul_le_mul_right g (show g ≤ d by omega)
        omega
      refine ⟨g, hd2, ?_, this, ?_⟩
      · exact Nat.lt_of_not_le fun hh => by
          have := Nat.mul_le_mul hh hh
          omega
      · exact Nat.mod_eq_zero_of_dvd ⟨d, by rw [Nat.mul_comm]; exact e.symm⟩
  · rintro ⟨_, h⟩ ⟨q, h1, _, h3, h4⟩
    have : q < i := by
      have : q * 2 ≤ q * q := Nat.mul_le_mul_left q h1
      omega
    exact h q h1 this h4
theorem str_s {p i : Nat} (hp : 2 ≤ p) : str (p + 1) i ↔ str p i ∨ (p * p ≤ i ∧ i % p = 0) := by
  unfold str
  constructor
  · rintro ⟨q, h1, h2, h3, h4⟩
    by_cases z : q = p
    · subst z; exact .inr ⟨h3, h4⟩
    · exact .inl ⟨q, h1, by omega, h3, h4⟩
  · rintro (⟨q, h1, h2, h3, h4⟩ | ⟨h3, h4⟩)
    · exact ⟨q, h1, by omega, h3, h4⟩
    · exact ⟨p, hp, by omega, h3, h4⟩
theorem law_primes_to_ok {n : Nat} (hn : n ≤ 100000) : m__law_primes_to n = some (pl (n + 1)) := by
  unfold m__law_primes_to
  refine tt_eq (tt_grd.mpr ⟨by simp, tt_grd.mpr ⟨⟨by omega, by omega, by simp; omega⟩, tt_bnd.mpr (tt_bnd.mpr (Tt.then (P' := fun st _ => st.1.length = n + 1 ∧ ∀ i, 2 ≤ i → i ≤ n → (st.1[i]? = some true ↔ prB i = true)) ?_ fun st _ h => ?_))⟩⟩)
  · have hlen : (List.replicate (Int.toNat ((n : Int) + 1)) ([true] : List Bool)).flatten.length = n + 1 := by simp
    have hall : ∀ i, i ≤ n → (List.replicate (Int.toNat ((n : Int) + 1)) ([true] : List Bool)).flatten[i]? = some true := fun i hi => by
      have e : ∀ k, (List.replicate k ([true] : List Bool)).flatten = List.replicate k true := by
        intro k
        induction k with
        | zero => rfl
        | succ k ih => rw [List.replicate_succ, List.flatten_cons, ih, List.replicate_succ]; rfl
      rw [e, List.getElem?_replicate, if_pos (by omega)]
    refine Tt.wh (I := fun (st : List Bool × Int) _ => ∃ p : Nat, st.2 = (p : Int) ∧ 2 ≤ p ∧ p ≤ n + 2 ∧ st.1.length = n + 1 ∧ ∀ i, i ≤ n → (st.1[i]? = some true ↔ ¬ str p i)) (nu := fun st => (n : Nat) + 2 - st.2.toNat) ?_ many _ _ ⟨2, rfl, by decide, by omega, hlen, fun i hi => ?_⟩ (lt_many (by show n + 2 - _ < _; omega))
    · rintro ⟨l, p'⟩ s k P ⟨p, e1, hp, hpn, hl, hs⟩ hk
      simp only at e1 hl hs
      subst e1
      refine tt_grd.mpr ⟨⟨sm_small (by omega), sm_small (by omega)⟩, hk _ _ (fun ht => ?_) (fun ht => ?_)⟩
      · dsimp only
        have hpp : p * p ≤ n := by
          have : (p : Int) * (p : Int) ≤ (n : Int) := by simpa using ht
          exact_mod_cast this
        have hpn2 : p ≤ n := Nat.le_trans (Nat.le_mul_self p) hpp
        have ec : (p : Int) * (p : Int) = ((p * p : Nat) : Int) := by push_cast; rfl
        rw [ec]
        refine tt_grd.mpr ⟨⟨sm_small (by omega), sm_small (by omega)⟩, tt_grd.mpr ⟨rg3_ok (by omega) (by omega) (by omega) (by omega) (by omega) (by omega), Tt.then (strike _ l ?_) ?_⟩⟩
        · intro x hx
          obtain ⟨k, rfl, hx2⟩ := (mem_rng3 (by omega)).mp hx
          have h0 : 0 ≤ (k : Int) * (p : Int) := Int.mul_nonneg (by omega) (by omega)
          rw [hl]
          omega
        · rintro l' s1 ⟨h1, h2⟩
          refine tt_bnd.mpr (tt_pure.mpr ⟨⟨p + 1, by omega, by omega, by omega, by show l'.length = n + 1; omega, fun i hi => ?_⟩, by show n + 2 - ((p : Int) + 1).toNat < n + 2 - ((p : Int)).toNat; omega⟩)
          rw [h2 i (by omega), hs i hi, str_s hp, not_or]
          refine and_congr_right fun _ => not_congr ?_
          rw [mem_rng3 (by omega)]
          constructor
          · rintro ⟨k, e, hx⟩
            have e' : i = p * p + k * p := by exact_mod_cast e
            exact ⟨by omega, by rw [e', ← Nat.add_mul, Nat.mul_mod_left]⟩
          · rintro ⟨h3, h4⟩
            have e := Nat.div_add_mod i p
            rw [h4, Nat.add_zero] at e
            have hd : p ≤ i / p := (Nat.le_div_iff_mul_le (by omega)).mpr h3
            refine ⟨i / p - p, ?_, by omega⟩
            have e' : i = p * p + (i / p - p) * p := by
              rw [← Nat.add_mul, Nat.add_sub_cancel' hd, Nat.mul_comm]; exact e.symm
            exact_mod_cast e'
      · have hpp : n < p * p := by
          have : ¬ (p : Int) * (p : Int) ≤ (n : Int) := by simpa using ht
          have e2 : ¬ p * p ≤ n := fun z => this (by exact_mod_cast z)
          omega
        exact ⟨hl, fun i h2 hi => by rw [hs i hi, str_pr hpp hi h2]⟩
    · rw [hall i hi]
      simp only [true_iff]
      rintro ⟨q, h1, h2, _⟩
      omega
  · obtain ⟨hl, h⟩ := h
    refine tt_grd.mpr ⟨⟨by decide, ⟨by omega, by omega⟩⟩, tt_grd.mpr ⟨by rw [rng_len]; omega, ?_⟩⟩
    refine tt_filterMap (g := fun (x : Int) => if prB x.toNat = true then some x else none) (fun x hx s Q hQ => ?_) ?_
    · obtain ⟨h1, h2⟩ := mem_rng.mp hx
      have e : ((x.toNat : Nat) : Int) = x := by omega
      have hlt : x.toNat < st.1.length := by omega
      obtain ⟨b, hb⟩ : ∃ b, st.1[x.toNat]? = some b := ⟨_, List.getElem?_eq_getElem hlt⟩
      rw [tt_lft (show atI st.1 x = some b by rw [← e, atI_nat hlt]; exact hb)]
      have := h x.toNat (by omega) (by omega)
      rw [hb] at this
      by_cases z : prB x.toNat = true
      · have hbt : b = true := by simpa using this.mpr z
        rw [if_pos z] at hQ
        exact Tt.pos hbt (tt_pure.mpr hQ)
      · have hbt : ¬ b = true := fun hh => z (this.mp (by rw [hh]))
        rw [if_neg z] at hQ
        exact Tt.neg hbt (tt_pure.mpr hQ)
    · refine tt_bnd.mpr (tt_pure.mpr ?_)
      have key : ∀ (k lo : Nat), List.filterMap (fun (x : Int) => if prB x.toNat = true then some x else none) (rng (lo : Int) ((lo + k : Nat) : Int)) = List.map (fun d : Nat => (d : Int)) ((List.range' lo k).filter prB) := by
        intro k
        induction k with
        | zero => intro lo; rw [rng_no (by omega)]; rfl
        | succ k ih =>
          intro lo
          rw [rng_step (by omega), List.filterMap_cons, List.range'_succ, List.filter_cons]
          have := ih (lo + 1)
          rw [show ((lo + 1 + k : Nat) : Int) = ((lo + (k + 1) : Nat) : Int) by omega, show ((lo + 1 : Nat) : Int) = (lo : Int) + 1 by omega] at this
          rw [this, Int.toNat_natCast]
          split <;> simp_all
      unfold pl pn
      by_cases h1 : n < 2
      · rw [rng_no (by omega)]
        have : n = 0 ∨ n = 1 := by omega
        rcases this with rfl | rfl <;> rfl
      · have := key (n - 1) 2
        rw [show ((2 + (n - 1) : Nat) : Int) = (n : Int) + 1 by omega, show ((2 : Nat) : Int) = 2 by rfl] at this
        rw [this]
        congr 1
        have e : List.range (n + 1) = [0, 1] ++ List.range' 2 (n - 1) := by
          rw [List.range_eq_range', show n + 1 = 2 + (n - 1) by omega]
          rw [← List.range'_append_1]
          rfl
        rw [e, List.filter_append]
        rfl
end Wk
set_option Elab.async false
set_option maxRecDepth 100000
set_option maxHeartbeats 4000000
set_option linter.all false
namespace Wk
open PySem L2
open PyProof.Rows hiding St
/-! A6: draws -/
/-- the pot, b draws may follow -/
structure Pot (s : PotT) (b : Nat) : Prop where
  g : ∀ c ∈ s.great, 0 ≤ c
  l : s.great.length ≤ 100
  m0 : 0 ≤ s.mix
  m1 : s.mix < 2 ^ 40
  t0 : 0 ≤ s.turn
  t1 : s.turn + b ≤ 10 ^ 9
theorem Pot.le {s : PotT} {b c : Nat} (h : Pot s b) (hc : c ≤ b) : Pot s c := ⟨h.g, h.l, h.m0, h.m1, h.t0, by have := h.t1; omega⟩
theorem draw_ok {s : PotT} {b : Nat} {m : Int} (h : Pot s (b + 1)) (hm : 0 < m) (hm2 : m < 2 ^ 900) : Tt s (m__law_draw m) fun a s1 => 0 ≤ a ∧ a < m ∧ Pot s1 b := by
  have hdv : Dv m := dv_of hm (Int.lt_trans hm2 (by decide +kernel))
  unfold m__law_draw
  refine tt_bnd.mpr (tt_bind.mpr ⟨s, s, rfl, ?_⟩)
  obtain ⟨g, x, t⟩ := s
  have hl := h.l
  have m0 := h.m0
  have m1 := h.m1
  have t0 := h.t0
  have t1 := h.t1
  have hg := h.g
  dsimp only at hl m0 m1 t0 t1 hg
  cases g with
  | cons c r =>
    refine Tt.pos rfl (tt_bind.mpr ⟨c, ⟨r, x, t⟩, rfl, tt_bnd.mpr ?_⟩)
    have hc : 0 ≤ c := hg c (List.mem_cons_self ..)
    have hr : ∀ d ∈ r, 0 ≤ d := fun d hd => hg d (List.mem_cons_of_mem _ hd)
    rw [List.length_cons] at hl
    refine Tt.then (P' := fun _ s1 => Pot s1 b) ?_ ?_
    · by_cases z : m ≤ c
      · refine Tt.pos (by rw [decide_eq_true_iff]; exact z) (tt_grd.mpr ⟨hdv, tt_bind.mpr ⟨_, _, rfl, tt_grd.mpr ⟨by show r.length < 16000000; omega, tt_bind.mpr ⟨(), _, rfl, tt_pure.mpr ?_⟩⟩⟩⟩)
        refine ⟨fun d hd => ?_, by show (c / m :: r).length ≤ 100; rw [List.length_cons]; omega, m0, m1, t0, by show t + (b : Int) ≤ _; omega⟩
        rcases List.mem_cons.mp hd with e | hd
        · rw [e]; exact Int.ediv_nonneg hc (by omega)
        · exact hr d hd
      · exact Tt.neg (by rw [decide_eq_true_iff]; exact z) (tt_pure.mpr ⟨hr, by show r.length ≤ 100; omega, m0, m1, t0, by show t + (b : Int) ≤ _; omega⟩)
    · intro _ s1 q
      exact tt_grd.mpr ⟨hm, tt_bnd.mpr (tt_pure.mpr ⟨Int.emod_nonneg _ (by omega), Int.emod_lt_of_pos _ hm, q⟩)⟩
  | nil =>
    have b1 : t + 1 ≤ 10 ^ 9 := by omega
    have b2 : (t + 1) * (t + 1) ≤ 10 ^ 9 * 10 ^ 9 := Int.mul_le_mul b1 b1 (by omega) (by decide)
    have b3 : 0 ≤ (t + 1) * (t + 1) := Int.mul_nonneg (by omega) (by omega)
    refine Tt.neg (by show ¬ (false = true); decide) ?_
    refine tt_bind.mpr ⟨_, _, rfl, tt_bind.mpr ⟨(), _, rfl, tt_bind.mpr ⟨_, _, rfl, tt_bnd.mpr (tt_bind.mpr ⟨_, _, rfl, ?_⟩)⟩⟩⟩
    show Tt (PotT.mk [] x (t + 1)) (Mir.lft (grd (Sm x ∧ Sm (48271 : Int))) >>= _) _
    have c1 : 0 ≤ (x * 48271 + (t + 1) * (t + 1) * 17 + 7919 * (t + 1)) % 4294967279 ∧ (x * 48271 + (t + 1) * (t + 1) * 17 + 7919 * (t + 1)) % 4294967279 < 4294967279 := ⟨Int.emod_nonneg _ (by decide), Int.emod_lt_of_pos _ (by decide)⟩
    have s1 : Sm x := sm_small (by omega)
    have s2 : Sm (t + 1) := sm_small (by omega)
    have s3 : Sm ((t + 1) * (t + 1)) := sm_small (by omega)
    refine tt_grd.mpr ⟨⟨s1, sm_small (by decide)⟩, tt_grd.mpr ⟨⟨s2, s2⟩, tt_grd.mpr ⟨⟨s3, sm_small (by decide)⟩, tt_grd.mpr ⟨⟨sm_small (by decide), s2⟩, tt_grd.mpr ⟨by decide, tt_bnd.mpr ?_⟩⟩⟩⟩⟩
    show Tt (PotT.mk [] x (t + 1)) (Mir.lft (grd (Sm ((x * 48271 + (t + 1) * (t + 1) * 17 + 7919 * (t + 1)) % 4294967279) ∧ Sm (69621 : Int))) >>= _) _
    generalize (x * 48271 + (t + 1) * (t + 1) * 17 + 7919 * (t + 1)) % 4294967279 = y at c1 ⊢
    have c2 : 0 ≤ (y * 69621 + y / 65536) % 4294967291 ∧ (y * 69621 + y / 65536) % 4294967291 < 4294967291 := ⟨Int.emod_nonneg _ (by decide), Int.emod_lt_of_pos _ (by decide)⟩
    refine tt_grd.mpr ⟨⟨sm_small (by omega), sm_small (by omega)⟩, tt_grd.mpr ⟨dv_of (by decide) (by decide +kernel), tt_grd.mpr ⟨by decide, tt_bnd.mpr (tt_bind.mpr ⟨(), _, rfl, ?_⟩)⟩⟩⟩
    generalize (y * 69621 + y / 65536) % 4294967291 = u at c2 ⊢
    refine tt_grd.mpr ⟨dv_of (by decide) (by decide +kernel), tt_grd.mpr ⟨hm, tt_bnd.mpr (tt_pure.mpr ⟨Int.emod_nonneg _ (by omega), Int.emod_lt_of_pos _ hm, ?_⟩)⟩⟩
    exact ⟨fun d hd => (nomatch hd), Nat.zero_le _, c2.1, by show u < 2 ^ 40; omega, by show 0 ≤ t + 1; omega, by show t + 1 + (b : Int) ≤ _; omega⟩
theorem pick_ok {s : PotT} {b : Nat} {row : List Int} (h : Pot s (b + 1)) (h0 : row ≠ []) (hl : row.length ≤ 1000) : Tt s (m__law_pick row) fun a s1 => a ∈ row ∧ Pot s1 b := by
  unfold m__law_pick
  have hp : 0 < row.length := List.length_pos_iff.mpr h0
  refine (draw_ok h (by omega) (Int.lt_of_le_of_lt (b := 1000) (by omega) (by decide +kernel))).then fun a s1 ⟨h1, h2, h3⟩ => ?_
  obtain ⟨n, rfl⟩ : ∃ n : Nat, a = n := ⟨a.toNat, by omega⟩
  have hn : n < row.length := by omega
  rw [tt_lft (show atI row (n : Int) = some row[n] by rw [atI_nat hn, List.getElem?_eq_getElem hn])]
  exact tt_bnd.mpr (tt_pure.mpr ⟨List.getElem_mem hn, h3⟩)
theorem prime_ok {s : PotT} {b : Nat} (h : Pot s (b + 2)) : Tt s m__law_prime fun a s1 => (∃ p : Nat, a = p ∧ isP p = true ∧ p < 1000) ∧ Pot s1 b := by
  unfold m__law_prime
  refine (draw_ok h (by decide) (by decide +kernel)).then fun a s1 ⟨h1, h2, h3⟩ => ?_
  refine tt_grd.mpr ⟨by simp, (pick_ok h3 (by simp) (by simp)).then fun p s2 ⟨hp, h4⟩ => tt_bnd.mpr (Tt.then (P' := fun st s3 => (∃ p : Nat, st = p ∧ isP p = true ∧ p < 1000) ∧ Pot s3 b) ?_ fun st s3 q => tt_bnd.mpr (tt_pure.mpr q))⟩
  have hp : 2 ≤ p ∧ p < 1000 := by
    simp only [List.mem_cons, List.not_mem_nil, or_false] at hp
    omega
  refine Tt.wh (I := fun (st : Int) s3 => (2 ≤ st ∧ st < 1000) ∧ Pot s3 b) (nu := fun st => st.toNat) ?_ many _ _ ⟨hp, h4⟩ (lt_many (by show p.toNat < _; omega))
  rintro st s k P ⟨⟨h5, h6⟩, h7⟩ hk
  have e := prs_law (st - 2).toNat (List.mem_range.mpr (by omega))
  rw [show (((st - 2).toNat : Nat) : Int) + 2 = st by omega, show (st - 2).toNat + 2 = st.toNat by omega] at e
  rw [tt_lft e]
  refine hk _ _ (fun ht => ?_) (fun ht => ?_)
  · refine tt_bnd.mpr (tt_pure.mpr ⟨⟨⟨?_, by omega⟩, h7⟩, by omega⟩)
    by_cases z : st = 2
    · rw [z] at ht; exact absurd ht (by decide)
    · omega
  · exact ⟨⟨st.toNat, by omega, by simpa using ht, by omega⟩, h7⟩
/-! ### products over figures -/
def pf (l : List Int) : Int := l.foldl (fun a x => a * (x + 1)) 1
theorem grow_ok {μ : Type → Type} {τ : Type} [Mir μ τ] {s : τ} : ∀ (l : List Int) (a : Int) (n : Nat), (∀ x ∈ l, 0 ≤ x ∧ x < 1000) → l.length + n ≤ 100 → 0 ≤ a → a ≤ 1000 ^ n →
    Tt s (lpS (μ := μ) l (fun (x13 : Int) (st11 : Int) => Mir.lft (grd (Sm st11 ∧ Sm (x13 + (1 : Int)))) >>= fun _ => bnd (st11 * (x13 + (1 : Int))) fun found52 => pure found52) a) fun v s1 => v = l.foldl (fun a x => a * (x + 1)) a ∧ s1 = s ∧ 0 ≤ v ∧ v ≤ 1000 ^ 100
  | [], a, n, _, hn, h0, h1 => tt_pure.mpr ⟨rfl, rfl, h0, Int.le_trans h1 (by
      have : (1000 : Nat) ^ n ≤ 1000 ^ 100 := Nat.pow_le_pow_right (by decide) (by simpa using hn)
      exact_mod_cast this)⟩
  | x :: l, a, n, h, hn, h0, h1 => by
    have hx := h x (List.mem_cons_self ..)
    rw [List.length_cons] at hn
    have b1 : a * (x + 1) ≤ 1000 ^ (n + 1) := by
      rw [Int.pow_succ]
      exact Int.mul_le_mul h1 (by omega) (by omega) (Int.le_of_lt (Int.pow_pos (by decide)))
    have b2 : 0 ≤ a * (x + 1) := Int.mul_nonneg h0 (by omega)
    refine Tt.then (P' := fun v s1 => v = a * (x + 1) ∧ s1 = s) ?_ ?_
    · refine tt_grd.mpr ⟨⟨?_, sm_small (by omega)⟩, tt_bnd.mpr (tt_pure.mpr ⟨rfl, rfl⟩)⟩
      have : (1000 : Nat) ^ n ≤ 1000 ^ 100 := Nat.pow_le_pow_right (by decide) (by omega)
      refine sm_lt (b := 1000 ^ n) ?_ (Nat.lt_of_le_of_lt this (by decide +kernel))
      have h1' : a ≤ ((1000 ^ n : Nat) : Int) := by push_cast; exact h1
      omega
    · rintro v s1 ⟨rfl, rfl⟩
      exact grow_ok l (a * (x + 1)) (n + 1) (fun y hy => h y (List.mem_cons_of_mem _ hy)) (by omega) b2 b1
theorem undivided_ok {p n : Nat} (hp : 2 ≤ p) (hq : p < 1000) (hn : n < 2 ^ 100) : m_undivided_choices n p = some (pf (di p n)) ∧ 0 ≤ pf (di p n) ∧ pf (di p n) ≤ 1000 ^ 100 := by
  have hd : ∀ x ∈ di p n, 0 ≤ x ∧ x < 1000 := by
    intro x hx
    obtain ⟨d, hd, rfl⟩ := List.mem_map.mp hx
    have := dg_lt hp n d hd
    omega
  have hl : (di p n).length + 0 ≤ 100 := by unfold di; rw [List.length_map]; exact dg_len hp 100 n hn
  have hr : Tt () (m_undivided_choices n p) fun a _ => a = pf (di p n) ∧ 0 ≤ a ∧ a ≤ 1000 ^ 100 := by
    unfold m_undivided_choices
    refine tt_bnd.mpr ?_
    rw [figures_same, tt_lft (figures_ok hp hq hn)]
    refine (grow_ok (di p n) 1 0 hd hl (by decide) (by decide)).then fun v s1 ⟨h1, _, h2, h3⟩ => tt_bnd.mpr (tt_pure.mpr ⟨h1, h2, h3⟩)
  obtain ⟨a, e, h⟩ := tt_ex hr
  rw [h.1] at e h
  exact ⟨e, h.2⟩
/-! ### multiples of all -/
/-- the greatest power of p up to n, by going on -/
theorem power_loop {p n : Nat} (hp : 2 ≤ p) (hpn : p ≤ n) (hn : n ≤ 2000) : ∃ w : Nat, w ≤ 2000 ∧ ∀ (μ : Type → Type) (τ : Type) [Mir μ τ] (s : τ), Tt s (whS (μ := μ) many (fun (st124 : Int) k => Mir.lft (grd (Sm st124 ∧ Sm (p : Int))) >>= fun _ => k (decide ((st124 * (p : Int)) ≤ (n : Int)))) (fun (st124 : Int) =>
    Mir.lft (grd (Sm st124 ∧ Sm (p : Int))) >>= fun _ => bnd (st124 * (p : Int)) fun own155 => pure own155) (p : Int)) fun v s1 => v = w ∧ s1 = s := by
  have gen : ∀ (m f : Nat), 0 < f → f ≤ n → n - f < m → ∃ w : Nat, w ≤ 2000 ∧ ∀ M, m ≤ M → ∀ (μ : Type → Type) (τ : Type) [Mir μ τ] (s : τ), Tt s (whS (μ := μ) M (fun (st124 : Int) k => Mir.lft (grd (Sm st124 ∧ Sm (p : Int))) >>= fun _ => k (decide ((st124 * (p : Int)) ≤ (n : Int)))) (fun (st124 : Int) =>
    Mir.lft (grd (Sm st124 ∧ Sm (p : Int))) >>= fun _ => bnd (st124 * (p : Int)) fun own155 => pure own155) (f : Int)) fun v s1 => v = w ∧ s1 = s := by
    intro m
    induction m with
    | zero => intro f _ _ h; omega
    | succ m ih =>
      intro f hf hfn hm
      have ec : (f : Int) * (p : Int) = ((f * p : Nat) : Int) := by push_cast; rfl
      have gd : Sm (f : Int) ∧ Sm (p : Int) := ⟨sm_small (by omega), sm_small (by omega)⟩
      by_cases z : f * p ≤ n
      · have h2 : f * 2 ≤ f * p := Nat.mul_le_mul_left f hp
        obtain ⟨w, hw, h⟩ := ih (f * p) (by omega) z (by omega)
        refine ⟨w, hw, fun M hM μ τ _ s => ?_⟩
        obtain ⟨M, rfl⟩ : ∃ k, M = k + 1 := ⟨M - 1, by omega⟩
        refine tt_grd.mpr ⟨gd, Tt.pos (by rw [decide_eq_true_iff, ec]; omega) (tt_bind.mpr (tt_grd.mpr ⟨gd, tt_bnd.mpr (tt_pure.mpr ?_)⟩))⟩
        rw [ec]; exact h M (by omega) μ τ s
      · refine ⟨f, by omega, fun M hM μ τ _ s => ?_⟩
        obtain ⟨M, rfl⟩ : ∃ k, M = k + 1 := ⟨M - 1, by omega⟩
        exact tt_grd.mpr ⟨gd, Tt.neg (by rw [decide_eq_true_iff, ec]; omega) (tt_pure.mpr ⟨rfl, rfl⟩)⟩
  obtain ⟨w, hw, h⟩ := gen (n + 1) p (by omega) hpn (by omega)
  exact ⟨w, hw, h many (Nat.le_of_lt (lt_many (by omega)))⟩
theorem mult_loop {n : Nat} (hn : n ≤ 2000) : ∀ (xs : List Nat) (a k : Nat), (∀ x ∈ xs, 2 ≤ x ∧ x ≤ n) → xs.length + k ≤ 1000 → a ≤ 2000 ^ k → ∃ v : Nat, v ≤ 2000 ^ (xs.length + k) ∧ ∀ (μ : Type → Type) (τ : Type) [Mir μ τ] (s : τ),
    Tt s (lpS (μ := μ) (List.map (fun d : Nat => (d : Int)) xs) (fun (x13 : Int) (st11 : Int) => bnd x13 fun power55 => (whS many (fun (st65 : Int) k => Mir.lft (grd (Sm st65 ∧ Sm x13)) >>= fun _ => k (decide ((st65 * x13) ≤ (n : Int)))) (fun (st65 : Int) =>
      Mir.lft (grd (Sm st65 ∧ Sm x13)) >>= fun _ => bnd (st65 * x13) fun power96 => pure power96) power55) >>= fun (st65 : Int) =>
      Mir.lft (grd (Sm st11 ∧ Sm st65)) >>= fun _ => bnd (st11 * st65) fun found113 => pure found113) (a : Int)) fun r s1 => r = v ∧ s1 = s
  | [], a, k, _, _, ha => ⟨a, by simpa using ha, fun μ τ _ s => tt_pure.mpr ⟨rfl, rfl⟩⟩
  | x :: xs, a, k, h, hl, ha => by
    obtain ⟨h1, h2⟩ := h x (List.mem_cons_self ..)
    obtain ⟨w, hw, hloop⟩ := power_loop h1 h2 hn
    rw [List.length_cons] at hl
    obtain ⟨v, hv, hr⟩ := mult_loop hn xs (a * w) (k + 1) (fun y hy => h y (List.mem_cons_of_mem _ hy)) (by omega) (by rw [Nat.pow_succ]; exact Nat.mul_le_mul ha hw)
    refine ⟨v, by rw [List.length_cons, show xs.length + 1 + k = xs.length + (k + 1) by omega]; exact hv, fun μ τ _ s => ?_⟩
    have sa : Sm (a : Int) := sm_lt (b := 2000 ^ k) (by rw [Int.natAbs_natCast]; exact ha) (Nat.lt_of_le_of_lt (Nat.pow_le_pow_right (by decide) (show k ≤ 1000 by omega)) (by decide +kernel))
    refine Tt.then (P' := fun r s1 => r = ((a * w : Nat) : Int) ∧ s1 = s) ?_ ?_
    · refine tt_bnd.mpr ((hloop μ τ s).then ?_)
      rintro r s1 ⟨rfl, rfl⟩
      exact tt_grd.mpr ⟨⟨sa, sm_small (by omega)⟩, tt_bnd.mpr (tt_pure.mpr ⟨by push_cast; rfl, rfl⟩)⟩
    · rintro r s1 ⟨rfl, rfl⟩
      exact hr μ τ s1
def pq (n : Nat) : Bool := decide (2 ≤ n) && (List.range 43).all fun d => decide (n ≤ d + 2) || decide (n % (d + 2) ≠ 0)
theorem filt_mono {α : Type} {p q : α → Bool} (h : ∀ x, p x = true → q x = true) : ∀ l : List α, (l.filter p).length ≤ (l.filter q).length
  | [] => Nat.le_refl _
  | x :: l => by
    have ih := filt_mono h l
    rw [List.filter_cons, List.filter_cons]
    by_cases hp : p x = true
    · rw [if_pos hp, if_pos (h x hp)]; simp; exact ih
    · rw [if_neg hp]
      split
      · rw [List.length_cons]; omega
      · exact ih
theorem pq_303 : ((List.range 2001).filter pq).length = 303 := by decide +kernel
theorem pn_303 : (pn 2001).length ≤ 303 := by
  rw [← pq_303]
  refine filt_mono (fun x hx => ?_) _
  obtain ⟨h2, h⟩ := prB_iff.mp hx
  unfold pq
  rw [Bool.and_eq_true_iff, decide_eq_true_iff, List.all_eq_true]
  refine ⟨h2, fun d _ => ?_⟩
  by_cases z : x ≤ d + 2
  · simp [z]
  · simp; exact .inr (h (d + 2) (by omega) (by omega))
theorem pn_mono (x k : Nat) : (pn x).length ≤ (pn (x + k)).length := by
  induction k with
  | zero => exact Nat.le_refl _
  | succ k ih =>
    rw [show x + (k + 1) = (x + k) + 1 by omega, pn_s, List.length_append]
    omega
theorem pn_few {n : Nat} (hn : n ≤ 2000) : (pn (n + 1)).length ≤ 303 := by
  have := pn_mono (n + 1) (2000 - n)
  rw [show n + 1 + (2000 - n) = 2001 by omega] at this
  exact Nat.le_trans this pn_303
/-! ### what repr takes -/
def Shp (D B : Nat) (d : PyData) : Prop := d.depth ≤ D ∧ wt d ≤ B
theorem shp_int {i : Int} (h : i.natAbs < 10 ^ 40) : Shp 0 50 (.int i) := ⟨by simp only [PyData.depth]; exact Nat.le_refl _, by simp only [wt]; rw [if_pos h]; exact Nat.le_refl _⟩
theorem shp_big {i : Int} (h : i.natAbs.log2 < 12900) : Shp 0 13000 (.int i) := ⟨by simp only [PyData.depth]; exact Nat.le_refl _, by
  simp only [wt]
  split
  · decide
  · exact Nat.le_refl _⟩
theorem shp_all {D B : Nat} : ∀ {l : List PyData}, (∀ x ∈ l, Shp D B x) → PyData.depthAll l ≤ D ∧ wts l ≤ l.length * (B + 2)
  | [], _ => ⟨by simp only [PyData.depthAll]; omega, by simp only [wts]; omega⟩
  | x :: l, h => by
    obtain ⟨h1, h2⟩ := h x (List.mem_cons_self ..)
    obtain ⟨h3, h4⟩ := shp_all (l := l) fun y hy => h y (List.mem_cons_of_mem _ hy)
    refine ⟨by simp only [PyData.depthAll]; omega, ?_⟩
    simp only [wts]
    rw [List.length_cons, Nat.add_mul]
    omega
theorem shp_list {D B n : Nat} {l : List PyData} (hl : l.length ≤ n) (h : ∀ x ∈ l, Shp D B x) : Shp (D + 1) (n * (B + 2) + 3) (.list l) := by
  obtain ⟨h1, h2⟩ := shp_all h
  have := Nat.mul_le_mul_right (B + 2) hl
  exact ⟨by simp only [PyData.depth]; omega, by simp only [wt]; omega⟩
theorem shp_tup {D B n : Nat} {l : List PyData} (hl : l.length ≤ n) (h : ∀ x ∈ l, Shp D B x) : Shp (D + 1) (n * (B + 2) + 3) (.tuple l) := by
  obtain ⟨h1, h2⟩ := shp_all h
  have := Nat.mul_le_mul_right (B + 2) hl
  exact ⟨by simp only [PyData.depth]; omega, by simp only [wt]; omega⟩
theorem Shp.le {D B D' B' : Nat} {d : PyData} (h : Shp D B d) (h1 : D ≤ D') (h2 : B ≤ B') : Shp D' B' d := ⟨Nat.le_trans h.1 h1, Nat.le_trans h.2 h2⟩
theorem Shp.ok {D B : Nat} {d : PyData} (h : Shp D B d) (h1 : D ≤ 50) (h2 : B ≤ 16000000) : OkD d := ⟨Nat.le_trans h.1 h1, Nat.le_trans h.2 h2⟩
end Wk
set_option Elab.async false
set_option maxRecDepth 100000
set_option maxHeartbeats 4000000
set_option linter.all false
namespace Wk
open PySem L2
open PyProof.Rows hiding St
/-! A7: the law -/
theorem cut_head {α : Type} (xs : List α) (n : Nat) : cut xs none (some (n : Int)) = xs.take n := by
  unfold cut HT.sIx
  simp only [List.drop_zero, Nat.sub_zero]
  rw [if_neg (by omega), Int.toNat_natCast]
  by_cases h : n ≤ xs.length
  · rw [Nat.min_eq_left h]
  · rw [Nat.min_eq_right (by omega), List.take_of_length_le (Nat.le_refl _), List.take_of_length_le (by omega)]
theorem bits_sm {i : Int} (h : Builtin.Int.intBits i ≤ 1048576) : i.natAbs.log2 ≤ 1048576 := by
  unfold Builtin.Int.intBits at h
  split at h
  · rename_i z
    have : i = 0 := by simpa using z
    subst this; decide
  · omega
theorem abs_if (i : Int) : (if i < 0 then -i else i) = (i.natAbs : Int) := by split <;> omega
theorem pot_ok {ns : List Int} (hb : ∀ i ∈ ns, Builtin.Int.intBits i ≤ 1048576) (hl : ns.length ≤ 63) : ∃ s, m__law_pot ns = some s ∧ Pot s 900000000 := by
  refine tt_ex ?_
  unfold m__law_pot
  have hlen : (cut ns none (some (61 : Int))).length ≤ 61 := by
    rw [show (61 : Int) = ((61 : Nat) : Int) by rfl, cut_head, List.length_take]; omega
  refine tt_grd.mpr ⟨by omega, ?_⟩
  refine tt_map (g := fun (x1 : Int) => ((2 : Int) * (if x1 < 0 then -x1 else x1)) + (if (decide (x1 < (0 : Int))) = true then (1 : Int) else 0)) (fun x hx s Q hQ => ?_) ?_
  · rw [show (61 : Int) = ((61 : Nat) : Int) by rfl, cut_head] at hx
    have := bits_sm (hb x (List.mem_of_mem_take hx))
    refine tt_grd.mpr ⟨⟨sm_small (by decide), ?_⟩, tt_pure.mpr hQ⟩
    rw [abs_if]; unfold Sm; rw [Int.natAbs_natCast]; omega
  · refine tt_bnd.mpr (tt_grd.mpr ⟨⟨sm_small (by decide), sm_small (by omega)⟩, tt_bnd.mpr (Tt.then (P' := fun st _ => 0 ≤ st ∧ st < 2 ^ 40) ?_ ?_)⟩)
    · refine Tt.lp (I := fun (_ : List Int) (st : Int) (_ : Unit) => 0 ≤ st ∧ st < 2 ^ 40) ?_ _ _ _ ?_
      · rintro x xs st s ⟨h1, h2⟩
        exact tt_grd.mpr ⟨⟨sm_small (by omega), sm_small (by decide)⟩, tt_grd.mpr ⟨by decide, tt_bnd.mpr (tt_pure.mpr ⟨Int.emod_nonneg _ (by decide), Int.lt_of_lt_of_le (Int.emod_lt_of_pos _ (by decide)) (by decide)⟩)⟩⟩
      · exact ⟨by omega, by omega⟩
    · rintro st s1 ⟨h1, h2⟩
      refine tt_grd.mpr ⟨by rw [List.length_map]; omega, ?_⟩
      refine tt_filterMap (g := fun (x : Int) => if (decide (((10 : Int) ^ Int.toNat (16 : Int)) ≤ x)) = true then some x else none) (fun x hx s Q hQ => tt_grd.mpr ⟨by decide, ?_⟩) (tt_bnd.mpr (tt_pure.mpr ?_))
      · by_cases z : decide (((10 : Int) ^ Int.toNat (16 : Int)) ≤ x) = true
        · rw [if_pos z] at hQ; exact Tt.pos z (tt_pure.mpr hQ)
        · rw [if_neg z] at hQ; exact Tt.neg z (tt_pure.mpr hQ)
      · refine ⟨fun c hc => ?_, ?_, h1, h2, by show (0 : Int) ≤ 0; decide, by show (0 : Int) + ((900000000 : Nat) : Int) ≤ _; decide⟩
        · obtain ⟨x, hx, e⟩ := List.mem_filterMap.mp hc
          split at e
          · rename_i z
            have z := of_decide_eq_true z
            cases e
            exact Int.le_trans (by decide) z
          · cases e
        · exact Nat.le_trans (List.length_filterMap_le ..) (by rw [List.length_map]; omega)
/-! ### noughts -/
theorem lg_le {p : Nat} (hp : 2 ≤ p) (n : Nat) : lg p n ≤ n := by
  have h := legendre hp n
  have : lg p n * 1 ≤ lg p n * (p - 1) := Nat.mul_le_mul_left _ (by omega)
  omega
theorem noughts_ok {n : Nat} (hn : n < 2 ^ 100) {b : Int} (h2 : 2 ≤ b) (h1 : b ≤ 1000) : ∃ (L : List (Int × Int)) (v : Int), m__law_parting b = some L ∧ L.length ≤ 20 ∧ (∀ y ∈ L, 2 ≤ y.1 ∧ y.1 < 1000 ∧ 1 ≤ y.2 ∧ y.2 < 1000) ∧
    List.min? (L.map fun y => ((lg y.1.toNat n : Nat) : Int) / y.2) = some v ∧ 0 ≤ v ∧ v ≤ n ∧ m_end_noughts n b = some v := by
  have e := bases (b - 2).toNat (List.mem_range.mpr (by omega))
  rw [show (((b - 2).toNat : Nat) : Int) + 2 = b by omega] at e
  obtain ⟨e1, e2⟩ := e
  cases hL : m__law_parting b with
  | none => rw [hL] at e2; cases e2
  | some L =>
    rw [hL] at e1 e2
    have e2 : (!L.isEmpty && decide (L.length ≤ 20) && L.all fun y => decide (2 ≤ y.1) && decide (y.1 < 1000) && decide (1 ≤ y.2) && decide (y.2 < 1000)) = true := e2
    simp only [Bool.and_eq_true, decide_eq_true_eq, List.all_eq_true] at e2
    obtain ⟨⟨h0, hl⟩, ha⟩ := e2
    have ha' : ∀ y ∈ L, 2 ≤ y.1 ∧ y.1 < 1000 ∧ 1 ≤ y.2 ∧ y.2 < 1000 := fun y hy => by
      obtain ⟨⟨⟨a1, a2⟩, a3⟩, a4⟩ := ha y hy
      exact ⟨a1, a2, a3, a4⟩
    obtain ⟨v, hv⟩ : ∃ v, List.min? (L.map fun y => ((lg y.1.toNat n : Nat) : Int) / y.2) = some v := by
      cases L with
      | nil => simp at h0
      | cons y r => exact ⟨_, rfl⟩
    have hm := List.min?_mem hv
    obtain ⟨y, hy, ev⟩ := List.mem_map.mp hm
    obtain ⟨a1, a2, a3, a4⟩ := ha' y hy
    have hle := lg_le (p := y.1.toNat) (by omega) n
    refine ⟨L, v, rfl, hl, ha', hv, ?_, ?_, ?_⟩
    · rw [← ev]; exact Int.ediv_nonneg (by omega) (by omega)
    · rw [← ev]
      exact Int.le_trans (Int.ediv_le_self _ (by omega)) (by omega)
    · unfold m_end_noughts
      refine tt_eq ?_
      rw [tt_lft e1]
      refine tt_grd.mpr ⟨by omega, tt_map (g := fun y => ((lg y.1.toNat n : Nat) : Int) / y.2) (fun y hy s Q hQ => ?_) ?_⟩
      · obtain ⟨a1, a2, a3, a4⟩ := ha' y hy
        have et := times_ok (p := y.1.toNat) (n := n) (by omega) (by omega) (Nat.lt_trans hn (by decide))
        rw [Int.toNat_of_nonneg (by omega)] at et
        rw [times_same, tt_lft et]
        exact tt_grd.mpr ⟨dv_of (by omega) (Int.lt_trans a4 (by decide +kernel)), tt_pure.mpr hQ⟩
      · rw [tt_lft hv]
        exact tt_bnd.mpr (tt_pure.mpr rfl)
/-! ### the numbers below sixty -/
theorem rest60 {p n : Nat} (hp : isP p = true) (hq : p < 1000) (hn : n < 60) : rs p 6 n 1 = ((fc n / p ^ lg p n % p : Nat) : Int) := by
  by_cases h : p < 60
  · exact small_rest p (List.mem_filter.mpr ⟨List.mem_range.mpr h, hp⟩) n (List.mem_range.mpr hn)
  · have h2 : 2 ≤ p := (FL_of hp hq).1
    by_cases z : n = 0
    · subst z
      rw [lg_0]
      have : (1 : Nat) % p = 1 := Nat.mod_eq_of_lt (by omega)
      show (1 : Int) = _
      simp [fc, this]
    · have hd : n / p = 0 := Nat.div_eq_of_lt (by omega)
      have hm : n % p = n := Nat.mod_eq_of_lt (by omega)
      rw [rs_s z, lg_s h2 (by omega), hd, lg_0, Nat.add_zero, Nat.pow_zero, Nat.div_one]
      have : ∀ t f, rs p t 0 f = f := fun t f => by cases t <;> simp [rs]
      rw [this]
      unfold rs1
      rw [hd, hm, if_neg (by decide), Int.one_mul, Int.mul_one, nmod', Nat.mod_mod]
theorem lucas60 {p n k : Nat} (hp : isP p = true) (hq : p < 1000) (hn : n < 60) (hk : k ≤ n) : bn n k % p = wl p 6 n k 1 := by
  by_cases h : p < 60
  · exact small_lucas p (List.mem_filter.mpr ⟨List.mem_range.mpr h, hp⟩) n (List.mem_range.mpr hn) k (List.mem_range.mpr (by omega))
  · have h2 : 2 ≤ p := (FL_of hp hq).1
    by_cases z : n = 0
    · subst z
      have : k = 0 := by omega
      subst this
      have : (1 : Nat) % p = 1 := Nat.mod_eq_of_lt (by omega)
      simp [bn, wl, this]
    · have hd : n / p = 0 := Nat.div_eq_of_lt (by omega)
      have hm : n % p = n := Nat.mod_eq_of_lt (by omega)
      have hm2 : k % p = k := Nat.mod_eq_of_lt (by omega)
      rw [wl, if_neg (by omega), hd, hm, hm2, Nat.one_mul, wl, if_pos (.inl rfl)]
/-! ### figures drawn anew -/
def en (j : Nat) (xs : List Int) : List (Int × Int) := (xs.zipIdx j).map fun y => ((y.2 : Int), y.1)
theorem en_0 (xs : List Int) : enum xs = en 0 xs := rfl
theorem en_s (j : Nat) (x : Int) (xs : List Int) : en j (x :: xs) = ((j : Int), x) :: en (j + 1) xs := rfl
theorem en_len (j : Nat) (xs : List Int) : (en j xs).length = xs.length := by unfold en; rw [List.length_map, List.length_zipIdx]
theorem di_s {p m : Nat} (hp : 2 ≤ p) (hm : 0 < m) : di p m = ((m % p : Nat) : Int) :: di p (m / p) := by unfold di; rw [dg_s hp hm]; rfl
theorem di_0 (p : Nat) : di p 0 = [] := by unfold di; rw [dg_0]; rfl
theorem anew_ok {p n c : Nat} (hp : 2 ≤ p) (hq : p < 1000) (hn : n < 2 ^ 100) {s : PotT} (h : Pot s (c + 100)) :
    Tt s (cmp (enum (di p n)) (fun x155 => m__law_draw (x155.2 + (1 : Int)) >>= fun r160 => Mir.lft (m__law_raised p x155.1) >>= fun r161 => Mir.lft (grd (Sm r160 ∧ Sm r161)) >>= fun _ => pure (some (r160 * r161)))) fun l s1 => (∃ k : Nat, l.sum = (k : Int) ∧ k ≤ n) ∧ Pot s1 c := by
  have hl : (di p n).length ≤ 100 := by unfold di; rw [List.length_map]; exact dg_len hp 100 n hn
  rw [en_0]
  have main := Tt.cmp (s := s) (f := fun (x155 : Int × Int) => m__law_draw (x155.2 + (1 : Int)) >>= fun r160 => Mir.lft (m__law_raised p x155.1) >>= fun r161 => Mir.lft (grd (Sm r160 ∧ Sm r161)) >>= fun _ => (pure (some (r160 * r161)) : PM PotT (Option Int)))
    (R := fun l s1 => (∃ k : Nat, l.sum = (k : Int) ∧ k ≤ n) ∧ Pot s1 c)
    (I := fun rest ys s1 => ∃ j m k : Nat, rest = en j (di p m) ∧ j + rest.length ≤ 100 ∧ ys.sum = (k : Int) ∧ k + p ^ j * m ≤ n ∧ Pot s1 (c + rest.length)) ?_ ?_ (en 0 (di p n)) [] ⟨0, n, 0, rfl, by rw [en_len]; omega, rfl, by simp, by rw [en_len]; exact h.le (by omega)⟩
  · simpa using main
  · rintro x xs ys s1 ⟨j, m, k, e, hj, hs, hk, hP⟩
    by_cases z : m = 0
    · subst z; rw [di_0] at e; cases e
    · rw [di_s hp (by omega), en_s] at e
      obtain ⟨rfl, rfl⟩ := List.cons.inj e
      rw [List.length_cons] at hj hP
      have hd := Nat.mod_lt m (show p > 0 by omega)
      refine (draw_ok (b := c + (en (j + 1) (di p (m / p))).length) (hP.le (by omega)) (by show (0 : Int) < ((m % p : Nat) : Int) + 1; omega) (Int.lt_of_le_of_lt (b := 1000) (by show ((m % p : Nat) : Int) + 1 ≤ _; omega) (by decide +kernel))).then fun a s2 ⟨h1, h2, h3⟩ => ?_
      have h2 : a < ((m % p : Nat) : Int) + 1 := h2
      obtain ⟨a, rfl⟩ : ∃ n : Nat, a = n := ⟨a.toNat, by omega⟩
      rw [tt_lft (show m__law_raised (p : Int) ((j : Int), ((m % p : Nat) : Int)).1 = some ((p ^ j : Nat) : Int) from raised_ok hq (by omega))]
      have bj : p ^ j < 10 ^ 4000 := Nat.lt_of_le_of_lt (Nat.le_trans (Nat.pow_le_pow_left (show p ≤ 1000 by omega) j) (Nat.pow_le_pow_right (by decide) (show j ≤ 100 by omega))) (by decide +kernel)
      refine tt_grd.mpr ⟨⟨sm_small (by omega), sm_lt (b := p ^ j) (by rw [Int.natAbs_natCast]; exact Nat.le_refl _) bj⟩, tt_pure.mpr ⟨j + 1, m / p, k + a * p ^ j, rfl, by omega, ?_, ?_, h3⟩⟩
      · show (ys ++ [((a : Nat) : Int) * ((p ^ j : Nat) : Int)]).sum = _
        rw [List.sum_append, hs]; simp
      · have e1 := Nat.div_add_mod m p
        have e2 : a * p ^ j ≤ (m % p) * p ^ j := Nat.mul_le_mul_right _ (by omega)
        have e3 : p ^ j * m = p ^ (j + 1) * (m / p) + (m % p) * p ^ j := by
          conv => lhs; rw [← e1]
          rw [Nat.mul_add, Nat.pow_succ, Nat.mul_assoc, Nat.mul_comm (p ^ j) (m % p)]
        omega
  · rintro ys s1 ⟨j, m, k, e, hj, hs, hk, hP⟩
    exact ⟨⟨k, hs, by omega⟩, hP.le (by simp)⟩
end Wk
set_option Elab.async false
set_option maxRecDepth 100000
set_option maxHeartbeats 4000000
set_option linter.all false
namespace Wk
open PySem L2
open PyProof.Rows hiding St
/-! A8: rows -/
theorem times_ok2 {p n : Nat} (hp : 2 ≤ p) (hq : p < 10000) (hn : n < 10 ^ 40) : m__law_times n p = some (lg p n : Int) := by
  unfold m__law_times
  refine tt_eq (tt_bnd.mpr (Tt.then (P' := fun st _ => st.2 = (lg p n : Int)) ?_ fun st _ h => ?_))
  · refine Tt.wh (I := fun st _ => ∃ m a : Nat, st = ((m : Int), (a : Int)) ∧ a + lg p m = lg p n) (nu := fun st => st.1.toNat) ?_ many _ _ ⟨n, 0, rfl, by simp⟩ (lt_many (by simpa using hn))
    rintro st s k P ⟨m, a, rfl, e⟩ hk
    refine hk _ _ (fun ht => ?_) (fun ht => ?_)
    · have hm : 0 < m := by simpa using ht
      simp only [tt_grd, tt_bnd, tt_pure]
      refine ⟨dv_nat hp (Nat.lt_trans hq (Nat.lt_trans (by decide : 10000 < 2 ^ 14) (Nat.pow_lt_pow_right (by decide) (by decide)))), ⟨m / p, a + m / p, by push_cast; rfl, ?_⟩, ?_⟩
      · rw [lg_s hp hm] at e; omega
      · have := div_lt hp hm
        have e3 : ((m : Int) / (p : Int)) = ((m / p : Nat) : Int) := by push_cast; rfl
        simp only [e3, Int.toNat_natCast]; exact this
    · have hm : m = 0 := by simp at ht; omega
      subst hm
      rw [lg_0] at e
      show (a : Int) = _
      omega
  · simp only [tt_bnd, tt_pure]; exact h

theorem pt_ok {n : Nat} (hn : n ≤ 2000) {μ : Type → Type} {τ : Type} [Mir μ τ] {β : Type} {s : τ} {P : β → τ → Prop} {f : Int → Option Int} (hf : ∀ q : Nat, 2 ≤ q → q < 10000 → f q = some (lg q n : Int)) {k : List (Int × Int) → μ β} (h : Tt s (k ((pl (n + 1)).map fun x => (x, ((lg x.toNat n : Nat) : Int)))) P) :
    Tt s (cmp (pl (n + 1)) (fun x21 => Mir.lft (f x21) >>= fun r25 => pure (some (x21, r25))) >>= k) P := by
  refine tt_map (g := fun x => (x, ((lg x.toNat n : Nat) : Int))) (fun x hx s Q hQ => ?_) h
  obtain ⟨q, hq, rfl⟩ := List.mem_map.mp hx
  have := mem_pn.mp hq
  rw [tt_lft (hf q this.2.1 (by omega))]
  exact tt_pure.mpr hQ
theorem parting_ok {n : Nat} (hn : n ≤ 2000) : m_product_parting n = some ((pl (n + 1)).map fun x => (x, ((lg x.toNat n : Nat) : Int))) := by
  unfold m_product_parting
  refine tt_eq ?_
  have hl := pl_len (n + 1)
  rw [tt_lft (primes_to_ok (by omega))]
  refine tt_grd.mpr ⟨by omega, pt_ok hn (f := m_times_in_product n) (fun q h1 h2 => by rw [times_same]; exact times_ok2 h1 h2 (Nat.lt_of_le_of_lt hn (by decide))) (tt_bnd.mpr (tt_pure.mpr rfl))⟩
theorem pl_303 {n : Nat} (hn : n ≤ 2000) : (pl (n + 1)).length ≤ 303 := by unfold pl; rw [List.length_map]; exact pn_few hn
theorem two_l {α : Type} (a b : α) : ([a, b] : List α).length ≤ 16000000 := by simp
theorem rows_ok {s : PotT} {b : Nat} (h : Pot s (b + 3)) : Tt s m__law_are_rows_right fun a _ => a = true := by
  unfold m__law_are_rows_right
  refine (draw_ok (h.le (show b + 2 + 1 ≤ b + 3 by omega)) (by decide) (by decide +kernel)).then fun a s1 ⟨h1, h2, h3⟩ => ?_
  refine tt_grd.mpr ⟨by simp, (pick_ok (h3.le (show b + 1 + 1 ≤ b + 2 by omega)) (by simp) (by simp)).then fun m s2 ⟨hm, h4⟩ => ?_⟩
  have hm2 : 0 < m ∧ m ≤ 2001 := by
    simp only [List.mem_cons, List.not_mem_nil, or_false] at hm
    rcases hm with e | e | e | e
    · omega
    · omega
    · omega
    · split at e <;> omega
  refine (draw_ok h4 hm2.1 (Int.lt_of_le_of_lt hm2.2 (by decide +kernel))).then fun n' s3 ⟨h5, h6, h7⟩ => ?_
  obtain ⟨n, rfl⟩ : ∃ n : Nat, n' = n := ⟨n'.toNat, by omega⟩
  have hn : n ≤ 2000 := by omega
  have hl := pl_303 hn
  refine tt_bnd.mpr ?_
  rw [tt_lft (law_primes_to_ok (by omega))]
  refine tt_bnd.mpr (tt_grd.mpr ⟨by omega, pt_ok hn (f := m__law_times n) (fun q h1 h2 => times_ok2 h1 h2 (Nat.lt_of_le_of_lt hn (by decide))) (tt_bnd.mpr ?_)⟩)
  rw [tt_lft (parting_ok hn), tt_lft (parting_ok hn)]
  have ok1 : ∀ l : List (Int × Int), l = ((pl (n + 1)).map fun x => (x, ((lg x.toNat n : Nat) : Int))) → OkD (PyData.list (List.map (fun a => (PyData.tuple (List.map (fun a => (PyData.tuple [(PyData.int a.1), (PyData.int a.2)])) a))) ([l, l] : List (List (Int × Int))))) := by
    rintro l rfl
    refine (shp_list (n := 2) (D := 2) (B := 303 * (2 * (50 + 2) + 3 + 2) + 3) (by simp) fun x hx => ?_).ok (by decide) (by decide)
    have hx : x = PyData.tuple (List.map (fun a => (PyData.tuple [(PyData.int a.1), (PyData.int a.2)])) ((pl (n + 1)).map fun x => (x, ((lg x.toNat n : Nat) : Int)))) := by simpa using hx
    rw [hx]
    refine shp_tup (by rw [List.length_map, List.length_map]; exact hl) fun y hy => ?_
    obtain ⟨z, hz, rfl⟩ := List.mem_map.mp hy
    obtain ⟨w, hw, rfl⟩ := List.mem_map.mp hz
    obtain ⟨q, hq, rfl⟩ := List.mem_map.mp hw
    have hq := mem_pn.mp hq
    have := lg_le (p := q) hq.2.1 n
    refine shp_tup (D := 0) (B := 50) (n := 2) (by simp) fun v hv => ?_
    simp only [List.mem_cons, List.not_mem_nil, or_false] at hv
    rcases hv with e | e
    · rw [e]; exact shp_int (by show ((q : Nat) : Int).natAbs < _; omega)
    · rw [e]; exact shp_int (by show ((lg ((q : Nat) : Int).toNat n : Nat) : Int).natAbs < _; rw [Int.toNat_natCast]; omega)
  refine tt_grd.mpr ⟨two_l .., tt_bnd.mpr (tt_grd.mpr ⟨ok1 _ rfl, tt_grd.mpr ⟨two_l .., tt_bnd.mpr (tt_grd.mpr ⟨ok1 _ rfl, tt_grP.mpr ⟨rfl, Tt.neg (by decide) (tt_bnd.mpr ?_)⟩⟩)⟩⟩)⟩
  have hpn := pn_few hn
  obtain ⟨v, hv, hr⟩ := mult_loop hn (pn (n + 1)) 1 0 (fun x hx => by have := mem_pn.mp hx; exact ⟨this.2.1, by omega⟩) (by omega) (by simp)
  refine (hr (PM PotT) PotT s3).then ?_
  rintro r s4 ⟨rfl, rfl⟩
  have em : m_all_multiple n = some (v : Int) := by
    unfold m_all_multiple
    refine tt_eq (tt_bnd.mpr ?_)
    rw [tt_lft (primes_to_ok (by omega))]
    refine (hr Option Unit ()).then ?_
    rintro r s5 ⟨rfl, rfl⟩
    exact tt_bnd.mpr (tt_pure.mpr rfl)
  rw [tt_lft em, tt_lft em]
  have ok2 : OkD (PyData.list (List.map PyData.int ([(v : Int), (v : Int)] : List Int))) := by
    refine (shp_list (n := 2) (D := 0) (B := 13000) (by simp) fun x hx => ?_).ok (by decide) (by decide)
    have hx : x = PyData.int (v : Int) := by simpa using hx
    rw [hx]
    refine shp_big ?_
    rw [Int.natAbs_natCast]
    have h1 : v ≤ 2 ^ 3333 := by
      have e1 : (pn (n + 1)).length + 0 ≤ 303 := by omega
      have e2 : (2000 : Nat) ^ ((pn (n + 1)).length + 0) ≤ 2000 ^ 303 := Nat.pow_le_pow_right (by decide) e1
      have e3 : (2000 : Nat) ^ 303 ≤ 2 ^ 3333 := by decide +kernel
      exact Nat.le_trans hv (Nat.le_trans e2 e3)
    refine PySem.Flt.log2_lt_of (by decide) (Nat.lt_of_le_of_lt h1 ?_)
    exact Nat.pow_lt_pow_right (by decide) (by decide)
  exact tt_grd.mpr ⟨two_l .., tt_bnd.mpr (tt_grd.mpr ⟨ok2, tt_grd.mpr ⟨two_l .., tt_bnd.mpr (tt_grd.mpr ⟨ok2, tt_grP.mpr ⟨rfl, tt_bnd.mpr (tt_pure.mpr rfl)⟩⟩)⟩⟩)⟩
end Wk
set_option Elab.async false
set_option maxRecDepth 100000
set_option maxHeartbeats 4000000
set_option linter.all false
namespace Wk
open PySem L2
open PyProof.Rows hiding St
/-! A9: the law's turns -/
theorem shp_ints {l : List Int} {n : Nat} (hl : l.length ≤ n) (h : ∀ x ∈ l, x.natAbs < 10 ^ 40) : Shp 1 (n * 52 + 3) (.tuple (l.map PyData.int)) := by
  refine shp_tup (D := 0) (B := 50) (by rw [List.length_map]; exact hl) fun x hx => ?_
  obtain ⟨i, hi, rfl⟩ := List.mem_map.mp hx
  exact shp_int (h i hi)
theorem ok_two {a b : Int} (ha : a.natAbs < 10 ^ 40) (hb : b.natAbs < 10 ^ 40) : OkD (PyData.list (List.map PyData.int ([a, b] : List Int))) := by
  refine (shp_list (n := 2) (D := 0) (B := 50) (by simp) fun x hx => ?_).ok (by decide) (by decide)
  simp only [List.map_cons, List.map_nil, List.mem_cons, List.not_mem_nil, or_false] at hx
  rcases hx with e | e <;> rw [e]
  · exact shp_int ha
  · exact shp_int hb
theorem ok_big2 {a : Int} (h0 : 0 ≤ a) (ha : a ≤ 1000 ^ 100) : OkD (PyData.list (List.map PyData.int ([a, a] : List Int))) := by
  refine (shp_list (n := 2) (D := 0) (B := 13000) (by simp) fun x hx => ?_).ok (by decide) (by decide)
  have hx : x = PyData.int a := by simpa using hx
  rw [hx]
  refine shp_big (PySem.Flt.log2_lt_of (by decide) ?_)
  obtain ⟨n, rfl⟩ : ∃ n : Nat, a = n := ⟨a.toNat, by omega⟩
  have h1 : n ≤ 1000 ^ 100 := by exact_mod_cast ha
  rw [Int.natAbs_natCast]
  have h2 : (1000 : Nat) ^ 100 ≤ 2 ^ 1000 := by decide +kernel
  exact Nat.lt_of_le_of_lt (Nat.le_trans h1 h2) (Nat.pow_lt_pow_right (by decide) (by decide))
theorem di_len {p n : Nat} (hp : 2 ≤ p) (hn : n < 2 ^ 100) : (di p n).length ≤ 100 := by unfold di; rw [List.length_map]; exact dg_len hp 100 n hn
theorem di_lt {p n : Nat} (hp : 2 ≤ p) (hq : p < 1000) : ∀ x ∈ di p n, 0 ≤ x ∧ x < 1000 := by
  intro x hx
  obtain ⟨d, hd, rfl⟩ := List.mem_map.mp hx
  have := dg_lt hp n d hd
  omega
theorem di_sum (p n : Nat) : (di p n).sum = ((dg p n).sum : Nat) := by
  unfold di
  induction dg p n with
  | nil => rfl
  | cons a l ih => simp [ih]
theorem ok_a {t r : Int} {l : List Int} (ht : t.natAbs < 10 ^ 40) (hr : r.natAbs < 10 ^ 40) (hl : l.length ≤ 100) (h : ∀ x ∈ l, x.natAbs < 10 ^ 40) :
    OkD (PyData.list (List.map (fun a => (PyData.list [(PyData.int a.1), (PyData.int a.2.1), (PyData.tuple (List.map PyData.int a.2.2))])) ([(t, r, l), (t, r, l)] : List (Int × Int × (List Int))))) := by
  refine (shp_list (n := 2) (D := 2) (B := 3 * (5203 + 2) + 3) (by simp) fun x hx => ?_).ok (by decide) (by decide)
  have hx : x = PyData.list [(PyData.int t), (PyData.int r), (PyData.tuple (List.map PyData.int l))] := by simpa using hx
  rw [hx]
  refine shp_list (n := 3) (D := 1) (B := 5203) (by simp) fun y hy => ?_
  simp only [List.mem_cons, List.not_mem_nil, or_false] at hy
  rcases hy with e | e | e <;> rw [e]
  · exact (shp_int ht).le (by decide) (by decide)
  · exact (shp_int hr).le (by decide) (by decide)
  · exact shp_ints hl h
theorem ok_b {t r : Int} {l : List Int} (ht : t.natAbs < 10 ^ 40) (hr : r.natAbs < 10 ^ 40) (hl : l.length ≤ 100) (h : ∀ x ∈ l, x.natAbs < 10 ^ 40) :
    OkD (PyData.list (List.map (fun a => (PyData.list [(PyData.tuple (List.map PyData.int a.1)), (PyData.int a.2.1), (PyData.int a.2.2)])) ([(l, t, r), (l, t, r)] : List ((List Int) × Int × Int)))) := by
  refine (shp_list (n := 2) (D := 2) (B := 3 * (5203 + 2) + 3) (by simp) fun x hx => ?_).ok (by decide) (by decide)
  have hx : x = PyData.list [(PyData.tuple (List.map PyData.int l)), (PyData.int t), (PyData.int r)] := by simpa using hx
  rw [hx]
  refine shp_list (n := 3) (D := 1) (B := 5203) (by simp) fun y hy => ?_
  simp only [List.mem_cons, List.not_mem_nil, or_false] at hy
  rcases hy with e | e | e <;> rw [e]
  · exact shp_ints hl h
  · exact (shp_int ht).le (by decide) (by decide)
  · exact (shp_int hr).le (by decide) (by decide)
theorem cr_mem {p : Nat} : ∀ (t a b c x : Nat), ∀ y ∈ cr p t a b c x, y < x + t
  | 0, _, _, _, _, y, h => nomatch h
  | t + 1, a, b, c, x, y, h => by
    rw [cr] at h
    split at h
    · exact nomatch h
    · rcases List.mem_append.mp h with h | h
      · split at h
        · have : y = x := by simpa using h
          omega
        · exact nomatch h
      · have := cr_mem t _ _ _ _ y h
        omega
/-- n!, by going on -/
theorem fact_loop {μ : Type → Type} {τ : Type} [Mir μ τ] {s : τ} {n : Nat} (hn : n < 60) : Tt s (lpS (μ := μ) (rng (1 : Int) ((n : Int) + (1 : Int))) (fun (x454 : Int) (st452 : Int) => Mir.lft (grd (Sm st452 ∧ Sm x454)) >>= fun _ => bnd (st452 * x454) fun product493 => pure product493) 1) fun v s1 => v = (fc n : Int) ∧ s1 = s := by
  have hf : ∀ y, y ≤ 60 → fc y ≤ 100 ^ y := by
    intro y
    induction y with
    | zero => intro _; decide
    | succ y ih =>
      intro hy
      rw [fc, Nat.pow_succ]
      exact Nat.mul_le_mul (ih (by omega)) (by omega)
  refine (Tt.rg (I := fun (x : Int) (st : Int) s1 => ∃ y : Nat, x = (y : Int) + 1 ∧ st = (fc y : Int) ∧ s1 = s) ?_ n 1 _ _ (by omega) ⟨0, rfl, rfl, rfl⟩).mono ?_
  · rintro x st s1 hx ⟨y, rfl, rfl, rfl⟩
    have h1 := hf y (by omega)
    have h2 : (100 : Nat) ^ y ≤ 100 ^ 60 := Nat.pow_le_pow_right (by decide) (by omega)
    refine tt_grd.mpr ⟨⟨sm_lt (b := 100 ^ 60) (by rw [Int.natAbs_natCast]; exact Nat.le_trans h1 h2) (by decide +kernel), sm_small (by omega)⟩, tt_bnd.mpr (tt_pure.mpr ⟨y + 1, by omega, ?_, rfl⟩)⟩
    rw [fc]; push_cast; rfl
  · rintro v s1 ⟨y, e, rfl, rfl⟩
    have : y = n := by omega
    subst this; exact ⟨rfl, rfl⟩
theorem drop_loop {μ : Type → Type} {τ : Type} [Mir μ τ] {s : τ} {p : Nat} (hp : 2 ≤ p) (hq : p < 1000) (f t : Nat) : Tt s (lpS (μ := μ) (rng 0 (t : Int)) (fun (x513 : Int) (st511 : Int) => Mir.lft (grd (Dv (p : Int))) >>= fun _ => bnd (st511 / (p : Int)) fun product552 => pure product552) (f : Int)) fun v s1 => v = ((f / p ^ t : Nat) : Int) ∧ s1 = s := by
  refine (Tt.rg (I := fun (x : Int) (st : Int) s1 => ∃ y : Nat, x = (y : Int) ∧ st = ((f / p ^ y : Nat) : Int) ∧ s1 = s) ?_ t 0 _ _ (by omega) ⟨0, rfl, by simp, rfl⟩).mono ?_
  · rintro x st s1 hx ⟨y, rfl, rfl, rfl⟩
    refine tt_grd.mpr ⟨dv_nat hp (p1000 hq), tt_bnd.mpr (tt_pure.mpr ⟨y + 1, by omega, ?_, rfl⟩)⟩
    rw [ndiv, Nat.div_div_eq_div_mul, Nat.pow_succ]
  · rintro v s1 ⟨y, e, rfl, rfl⟩
    have : y = t := by omega
    subst this; exact ⟨rfl, rfl⟩
/-- the last lines of a turn -/
theorem base_ok {n c : Nat} (hn : n < 2 ^ 40) {s : PotT} (h : Pot s (c + 2)) : Tt s (Mir.lft (grd (List.length ([(11 : Int), (999 : Int)] : List Int) ≤ 16000000)) >>= fun _ => m__law_pick ([(11 : Int), (999 : Int)] : List Int) >>= fun r651 => m__law_draw r651 >>= fun r650 => bnd ((2 : Int) + r650) fun base594 =>
    Mir.lft (m__law_parting base594) >>= fun r649 => Mir.lft (grd (List.length r649 ≤ 16000000)) >>= fun _ => cmp r649 (fun x604 => Mir.lft (m__law_times n x604.1) >>= fun r608 => Mir.lft (grd (Dv x604.2)) >>= fun _ => pure (some (r608 / x604.2))) >>= fun l648 => Mir.lft (List.min? l648) >>= fun y647 => bnd y647 fun due609 =>
    Mir.lft (m_end_noughts n base594) >>= fun r644 => Mir.lft (m_end_noughts n base594) >>= fun r645 => Mir.lft (grd (List.length ([r644, r645] : List Int) ≤ 16000000)) >>= fun _ => bnd (PyData.list (List.map PyData.int ([r644, r645] : List Int))) fun d643 => Mir.lft (grd (OkD d643)) >>= fun _ => Mir.lft (grd (List.length ([due609, due609] : List Int) ≤ 16000000)) >>= fun _ => bnd (PyData.list (List.map PyData.int ([due609, due609] : List Int))) fun d646 => Mir.lft (grd (OkD d646)) >>= fun _ => Mir.lft (grP (d643 = d646)) >>= fun _ => if false = true then
    (bnd false fun r633 => pure (Ctl.ret r633)) else (pure (Ctl.go ()) : PM PotT (Ctl Bool Unit))) fun o s1 => o = Ctl.go () ∧ Pot s1 c := by
  refine tt_grd.mpr ⟨by simp, (pick_ok (h.le (show c + 1 + 1 ≤ c + 2 by omega)) (by simp) (by simp)).then fun m s2 ⟨hm, h4⟩ => ?_⟩
  have hm2 : 0 < m ∧ m ≤ 999 := by
    simp only [List.mem_cons, List.not_mem_nil, or_false] at hm
    omega
  refine (draw_ok h4 hm2.1 (Int.lt_of_le_of_lt hm2.2 (by decide +kernel))).then fun d s3 ⟨h5, h6, h7⟩ => tt_bnd.mpr ?_
  obtain ⟨L, v, e1, hl, hL, hv, h0, hvn, e2⟩ := noughts_ok (n := n) (Nat.lt_trans hn (by decide)) (show (2 : Int) ≤ 2 + d by omega) (by omega)
  rw [tt_lft e1]
  refine tt_grd.mpr ⟨by omega, tt_map (g := fun y => ((lg y.1.toNat n : Nat) : Int) / y.2) (fun y hy s Q hQ => ?_) ?_⟩
  · obtain ⟨a1, a2, a3, a4⟩ := hL y hy
    have et := times_ok (p := y.1.toNat) (n := n) (by omega) (by omega) (Nat.lt_trans hn (by decide))
    rw [Int.toNat_of_nonneg (by omega)] at et
    rw [tt_lft et]
    exact tt_grd.mpr ⟨dv_of (by omega) (Int.lt_trans a4 (by decide +kernel)), tt_pure.mpr hQ⟩
  · rw [tt_lft hv, tt_bnd, tt_lft e2, tt_lft e2]
    have ok := ok_two (a := v) (b := v) (by omega) (by omega)
    exact tt_grd.mpr ⟨two_l .., tt_bnd.mpr (tt_grd.mpr ⟨ok, tt_grd.mpr ⟨two_l .., tt_bnd.mpr (tt_grd.mpr ⟨ok, tt_grP.mpr ⟨rfl, Tt.neg (by decide) (tt_pure.mpr ⟨rfl, h7⟩)⟩⟩)⟩⟩)⟩
end Wk
set_option Elab.async false
set_option maxRecDepth 100000
set_option maxHeartbeats 4000000
set_option linter.all false
namespace Wk
open PySem L2
open PyProof.Rows hiding St
/-! A10: the law -/
theorem three_l {α : Type} (a b c d e f : α) : ([a, b, c, d, e, f] : List α).length ≤ 16000000 := by simp
theorem law_ok {s : PotT} (h : Pot s 10000) : Tt s m_law fun a _ => a = true := by
  unfold m_law
  refine tt_grd.mpr ⟨by decide, Tt.then (P' := fun o s1 => o = Ctl.go () ∧ Pot s1 1000) ?_ ?_⟩
  · refine Tt.rgC (I := fun (x : Int) (st : Unit) s1 => Pot s1 (1000 + (3 - x).toNat * 1000)) ?_ ?_ 3 0 () s rfl (h.le (by decide))
    · intro x st s0 hx hP
      obtain ⟨c, hc⟩ : ∃ c, c = 1000 + (3 - (x + 1)).toNat * 1000 := ⟨_, rfl⟩
      have hP : Pot s0 (c + 200) := hP.le (by omega)
      refine Tt.mono (P := fun o s1 => o = Ctl.go () ∧ Pot s1 c) ?_ (fun o s1 => by
        rintro ⟨rfl, q⟩
        rw [hc] at q
        exact q)
      clear hc
      refine (prime_ok (b := c + 190) (hP.le (by omega))).then ?_
      rintro p' s1 ⟨⟨p, rfl, hip, hq⟩, h1⟩
      have hF := FL_of hip hq
      have hp := hF.1
      refine tt_bnd.mpr (tt_grd.mpr ⟨by decide, tt_grd.mpr ⟨by decide, tt_grd.mpr ⟨by simp, (pick_ok (b := c + 180) (h1.le (by omega)) (by simp) (by simp)).then fun m s2 ⟨hm, h2⟩ => ?_⟩⟩⟩)
      have hm2 : 0 < m ∧ m ≤ 10 ^ 12 + 1 := by
        have : ∀ a ∈ [(12 : Int), (400 : Int), ((10 : Int) ^ Int.toNat (6 : Int)), (((10 : Int) ^ Int.toNat (12 : Int)) + (1 : Int))], 0 < a ∧ a ≤ 10 ^ 12 + 1 := by decide
        exact this m hm
      refine (draw_ok (b := c + 170) (h2.le (by omega)) hm2.1 (Int.lt_of_le_of_lt hm2.2 (by decide +kernel))).then fun n' s3 ⟨h5, h6, h3⟩ => ?_
      obtain ⟨n, rfl⟩ : ∃ n : Nat, n' = n := ⟨n'.toNat, by omega⟩
      have hn : n ≤ 10 ^ 12 := by omega
      have hn40 : n < 2 ^ 40 := by omega
      have hn100 : n < 2 ^ 100 := by omega
      have hnb : n < 10 ^ 40 := by omega
      refine tt_bnd.mpr ((draw_ok (b := c + 160) (h3.le (by omega)) (by omega) (Int.lt_of_le_of_lt (b := 10 ^ 12 + 1) (by omega) (by decide +kernel))).then fun k1 s4 ⟨h7, h8, h4⟩ => tt_bnd.mpr ?_)
      rw [tt_lft (products_ok hp hq)]
      refine tt_bnd.mpr (tt_grd.mpr ⟨dv_of (by decide) (by decide +kernel), tt_grd.mpr ⟨three_l .., (pick_ok (b := c + 150) (h4.le (by omega)) (by simp) (by simp)).then fun k2 s5 ⟨hk2, h9⟩ => tt_bnd.mpr ?_⟩⟩)
      have hk2 : 0 ≤ k2 ∧ k2 ≤ n := by
        simp only [List.mem_cons, List.not_mem_nil, or_false] at hk2
        rcases hk2 with e | e | e | e | e | e
        · omega
        · omega
        · omega
        · omega
        · omega
        · split at e <;> omega
      refine (draw_ok (b := c + 140) (h9.le (by omega)) (by decide) (by decide +kernel)).then fun d3 s6 ⟨_, _, h10⟩ => ?_
      refine Tt.then (P' := fun k s7 => (∃ k' : Nat, k = (k' : Int) ∧ k' ≤ n) ∧ Pot s7 (c + 30)) ?_ ?_
      · by_cases z : ((decide (d3 = (0 : Int))) && (decide ((0 : Int) < (n : Int)))) = true
        · refine Tt.pos z ?_
          rw [tt_lft (figures_ok hp hq hn100)]
          have el : (enum (di p n)).length ≤ 16000000 := by
            have := di_len hp hn100
            rw [en_0, en_len]; omega
          refine tt_grd.mpr ⟨el, (anew_ok (c := c + 30) hp hq hn100 (h10.le (by omega))).then fun l s7 q => tt_bnd.mpr (tt_pure.mpr q)⟩
        · exact Tt.neg z (tt_pure.mpr ⟨⟨k2.toNat, by omega, by omega⟩, h10.le (by omega)⟩)
      · rintro k' s7 ⟨⟨k, rfl, hk⟩, h11⟩
        have hab : k + (n - k) = n := by omega
        obtain ⟨er, er0, er1⟩ := rest_ok (T := 40) hp hq (by decide) hn40
        have et := times_ok hp hq hnb
        have ef := figures_ok hp hq hn100
        have epr := product_rest_ok (T := 40) hp hq (by decide) hn40
        have hlg := lg_le hp n
        have hdl := di_len hp hn100
        have hdb := di_lt (n := n) hp hq
        have oka := ok_a (t := (lg p n : Int)) (r := rs p 40 n 1) (l := di p n) (by omega) (by omega) hdl (fun x hx => by have := hdb x hx; omega)
        rw [tt_lft et, tt_lft er, tt_lft ef]
        refine tt_bnd.mpr ?_
        rw [times_same, figures_same, tt_lft et, tt_lft epr, tt_lft ef]
        refine tt_bnd.mpr ?_
        rw [tt_lft et, tt_lft epr, tt_lft ef]
        refine tt_bnd.mpr (tt_grd.mpr ⟨two_l .., tt_bnd.mpr (tt_grd.mpr ⟨oka, tt_grd.mpr ⟨two_l .., tt_bnd.mpr (tt_grd.mpr ⟨oka, tt_grP.mpr ⟨rfl, Tt.neg (by decide) ?_⟩⟩)⟩⟩)⟩)
        refine tt_grd.mpr ⟨⟨sm_small (by show ((lg p n : Nat) : Int).natAbs ≤ _; omega), sm_small (by omega)⟩, Tt.neg ?_ ?_⟩
        · have e1 : ((lg p n : Nat) : Int) * ((p : Int) - 1) = (n : Int) - (di p n).sum := by
            have := legendre hp n
            rw [di_sum, show (p : Int) - 1 = ((p - 1 : Nat) : Int) by omega, ← Int.natCast_mul]
            omega
          show ¬ ((!decide (((lg p n : Nat) : Int) * ((p : Int) - 1) = (n : Int) - (di p n).sum)) = true)
          rw [decide_eq_true e1]; decide
        · have hcr := law_carried_ok (T := 40) hp hq (by decide) hab hn40
          have hcp := carried_places_ok (T := 40) hp hq (by decide) hab hn40
          have htc := times_in_choice_ok (T := 40) hp hq (by decide) hab hn40
          have hch := choice_rest_ok (T := 40) (k := k) hp hq (by decide) hn40
          have hlc := law_choice_rest_ok (T := 40) hF hq (by decide) hk hn40
          have hku := kummer hp 40 k (n - k) 0 0 (by decide) (by omega)
          have hl0 := lucas_0 hF 40 k (n - k) 0 1 (by omega) (by decide) (by omega)
          rw [hab] at hl0
          rw [Nat.add_zero, hab] at hku
          have hkc : (n : Int) - (k : Int) = ((n - k : Nat) : Int) := by omega
          have hcl := cr_len p 40 k (n - k) 0 0
          have tm : (lg p n : Int) - (lg p k : Int) - (lg p (n - k) : Int) = ((cr p 40 k (n - k) 0 0).length : Int) := by omega
          rw [tt_lft hcr]
          refine tt_bnd.mpr ?_
          rw [tt_lft et, tt_lft (times_ok (n := k) hp hq (by omega)), hkc, tt_lft (times_ok (n := n - k) hp hq (by omega)), tm]
          refine tt_bnd.mpr ?_
          rw [tt_lft hlc]
          refine tt_bnd.mpr ?_
          rw [tt_lft hcp, tt_lft htc, tt_lft hch]
          refine tt_bnd.mpr ?_
          rw [tt_lft hcp, tt_lft htc, tt_lft hch]
          have wlt : wl p 40 n k 1 < 1000 := by
            have gen : ∀ t n k f, f < p → wl p t n k f < p := by
              intro t
              induction t with
              | zero => intro n k f hf; exact hf
              | succ t ih =>
                intro n k f hf
                rw [wl]
                split
                · exact hf
                · exact ih _ _ _ (Nat.mod_lt _ (by omega))
            have := gen 40 n k 1 (by omega)
            omega
          have okb := ok_b (t := ((cr p 40 k (n - k) 0 0).length : Int)) (r := (wl p 40 n k 1 : Int)) (l := ci (cr p 40 k (n - k) 0 0)) (by omega) (by omega) (by rw [ci_len]; omega) (fun x hx => by
            obtain ⟨y, hy, rfl⟩ := List.mem_map.mp hx
            have := cr_mem _ _ _ _ _ y hy
            omega)
          refine tt_bnd.mpr (tt_grd.mpr ⟨two_l .., tt_bnd.mpr (tt_grd.mpr ⟨okb, tt_grd.mpr ⟨two_l .., tt_bnd.mpr (tt_grd.mpr ⟨okb, tt_grP.mpr ⟨rfl, Tt.neg ?_ ?_⟩⟩)⟩⟩)⟩)
          · show ¬ ((false || ((!decide (((ci (cr p 40 k (n - k) 0 0)).length : Int) = ((cr p 40 k (n - k) 0 0).length : Int))) || (!decide ((decide (((wl p 40 n k 1 : Nat) : Int) = (0 : Int))) = (decide ((0 : Int) < ((cr p 40 k (n - k) 0 0).length : Int))))))) = true)
            rw [ci_len]
            have e3 : (decide (((wl p 40 n k 1 : Nat) : Int) = (0 : Int))) = (decide ((0 : Int) < ((cr p 40 k (n - k) 0 0).length : Int))) := by
              by_cases z : wl p 40 n k 1 = 0
              · rw [decide_eq_true (by omega), decide_eq_true (by have := hl0.mp z; omega)]
              · rw [decide_eq_false (by omega), decide_eq_false (fun y => z (hl0.mpr (by omega)))]
            rw [decide_eq_true e3, decide_eq_true (rfl : ((cr p 40 k (n - k) 0 0).length : Int) = _)]
            decide
          · refine tt_bnd.mpr ?_
            rw [tt_lft ef]
            obtain ⟨eu, eu0, eu1⟩ := undivided_ok (n := n) hp hq hn100
            refine (grow_ok (di p n) 1 0 hdb (by omega) (by decide) (by decide)).then ?_
            rintro g s8 ⟨rfl, rfl, _, _⟩
            rw [tt_lft eu, tt_lft eu]
            have okc := ok_big2 eu0 eu1
            refine tt_grd.mpr ⟨two_l .., tt_bnd.mpr (tt_grd.mpr ⟨okc, tt_grd.mpr ⟨two_l .., tt_bnd.mpr (tt_grd.mpr ⟨okc, tt_grP.mpr ⟨rfl, Tt.neg (by decide) ?_⟩⟩)⟩⟩)⟩
            by_cases h60 : n < 60
            · refine Tt.pos (by rw [decide_eq_true_iff]; omega) (tt_bnd.mpr (tt_grd.mpr ⟨⟨by decide, ⟨by omega, by omega⟩⟩, (fact_loop h60).then ?_⟩))
              rintro f s9 ⟨rfl, rfl⟩
              rw [tt_lft et]
              refine tt_grd.mpr ⟨⟨by omega, by omega⟩, (drop_loop hp hq (fc n) (lg p n)).then ?_⟩
              rintro f s9 ⟨rfl, rfl⟩
              refine tt_grd.mpr ⟨by omega, ?_⟩
              have e6 := product_rest_ok (T := 6) (n := n) hp hq (by decide) (by omega)
              rw [tt_lft e6, rest60 hip hq h60, nmod]
              refine Tt.then (P' := fun b s10 => b = false ∧ s10 = s9) ?_ ?_
              · refine Tt.neg (by rw [decide_eq_true rfl]; decide) ?_
                rw [tt_lft (law_choose_ok (by omega) hk)]
                refine tt_grd.mpr ⟨by omega, ?_⟩
                rw [tt_lft (choice_rest_ok (T := 6) (k := k) hp hq (by decide) (show n < 2 ^ 6 by omega)), nmod, lucas60 hip hq h60 hk]
                refine tt_pure.mpr ⟨?_, rfl⟩
                rw [decide_eq_true rfl]; rfl
              · rintro b s10 ⟨rfl, rfl⟩
                exact Tt.neg (by decide) (base_ok (c := c) hn40 (h11.le (by omega)))
            · exact Tt.neg (by rw [decide_eq_true_iff]; omega) (base_ok (c := c) hn40 (h11.le (by omega)))
    · intro st s1 hP
      exact ⟨rfl, hP.le (by omega)⟩
  · rintro o s1 ⟨rfl, hP⟩
    show Tt s1 (m__law_are_rows_right >>= fun r792 => bnd r792 fun r789 => pure r789) _
    exact (rows_ok (b := 900) (hP.le (by omega))).then fun a s2 e => tt_bnd.mpr (tt_pure.mpr e)
theorem main_law : ∀ ns : List Int, ns.length ≤ 63 → (∀ i ∈ ns, Builtin.Int.intBits i ≤ 1048576) → okLaw ns := by
  intro ns hl hb
  obtain ⟨s, e, h⟩ := pot_ok hb hl
  obtain ⟨a, s1, e1, rfl⟩ := law_ok (h.le (by decide))
  exact ⟨s, s1, e, e1⟩
end Wk
set_option Elab.async false
set_option maxRecDepth 100000
set_option maxHeartbeats 4000000
set_option linter.all false
namespace Wk
open PySem L2
open PyProof.Rows hiding St
theorem all_mk {l : PySem.W.OpenLaw} {w : World} {K : PySem.W.Frag} {h : Heap} {mg : Str → Option Value} {fa : Addr} (X : K.In h) (G : h.Ns mainGlobals mg) (hfa : mg "law" = some (.ref fa))
    {f0 : Addr} {od0 an0 : Option Addr} {sl0 : Array (Option Value)} {oc0 kV0 dc0 pm0 cd0 ct0 : Value}
    (a0 : PySem.W.nsIn K mainGlobals "taken_out" = some (some (.ref f0))) (l0 : K.lookup f0 = some ⟨oc0, od0, .func (PySem.W.fnOf "taken_out" "taken_out" (defArgs t_taken_out) (defBody t_taken_out) (defScope t_taken_out) .none kV0 dc0 pm0 an0 cd0 ct0), sl0⟩) (c0 : PySem.W.codeIn K cd0 "taken_out" = true) (k0 : PySem.W.keepIn K (.ref f0) = true)
    {f1 : Addr} {od1 an1 : Option Addr} {sl1 : Array (Option Value)} {oc1 kV1 dc1 pm1 cd1 ct1 : Value}
    (a1 : PySem.W.nsIn K mainGlobals "power_left" = some (some (.ref f1))) (l1 : K.lookup f1 = some ⟨oc1, od1, .func (PySem.W.fnOf "power_left" "power_left" (defArgs t_power_left) (defBody t_power_left) (defScope t_power_left) .none kV1 dc1 pm1 an1 cd1 ct1), sl1⟩) (c1 : PySem.W.codeIn K cd1 "power_left" = true) (k1 : PySem.W.keepIn K (.ref f1) = true)
    {f2 : Addr} {od2 an2 : Option Addr} {sl2 : Array (Option Value)} {oc2 kV2 dc2 pm2 cd2 ct2 : Value}
    (a2 : PySem.W.nsIn K mainGlobals "does_pass" = some (some (.ref f2))) (l2 : K.lookup f2 = some ⟨oc2, od2, .func (PySem.W.fnOf "does_pass" "does_pass" (defArgs t_does_pass) (defBody t_does_pass) (defScope t_does_pass) .none kV2 dc2 pm2 an2 cd2 ct2), sl2⟩) (c2 : PySem.W.codeIn K cd2 "does_pass" = true) (k2 : PySem.W.keepIn K (.ref f2) = true)
    {f3 : Addr} {od3 an3 : Option Addr} {sl3 : Array (Option Value)} {oc3 kV3 dc3 pm3 cd3 ct3 : Value}
    (a3 : PySem.W.nsIn K mainGlobals "is_prime_number" = some (some (.ref f3))) (l3 : K.lookup f3 = some ⟨oc3, od3, .func (PySem.W.fnOf "is_prime_number" "is_prime_number" (defArgs t_is_prime_number) (defBody t_is_prime_number) (defScope t_is_prime_number) .none kV3 dc3 pm3 an3 cd3 ct3), sl3⟩) (c3 : PySem.W.codeIn K cd3 "is_prime_number" = true) (k3 : PySem.W.keepIn K (.ref f3) = true)
    {f4 : Addr} {od4 an4 : Option Addr} {sl4 : Array (Option Value)} {oc4 kV4 dc4 pm4 cd4 ct4 : Value}
    (a4 : PySem.W.nsIn K mainGlobals "primes_of" = some (some (.ref f4))) (l4 : K.lookup f4 = some ⟨oc4, od4, .func (PySem.W.fnOf "primes_of" "primes_of" (defArgs t_primes_of) (defBody t_primes_of) (defScope t_primes_of) .none kV4 dc4 pm4 an4 cd4 ct4), sl4⟩) (c4 : PySem.W.codeIn K cd4 "primes_of" = true) (k4 : PySem.W.keepIn K (.ref f4) = true)
    {f5 : Addr} {od5 an5 : Option Addr} {sl5 : Array (Option Value)} {oc5 kV5 dc5 pm5 cd5 ct5 : Value}
    (a5 : PySem.W.nsIn K mainGlobals "primes_to" = some (some (.ref f5))) (l5 : K.lookup f5 = some ⟨oc5, od5, .func (PySem.W.fnOf "primes_to" "primes_to" (defArgs t_primes_to) (defBody t_primes_to) (defScope t_primes_to) .none kV5 dc5 pm5 an5 cd5 ct5), sl5⟩) (c5 : PySem.W.codeIn K cd5 "primes_to" = true) (k5 : PySem.W.keepIn K (.ref f5) = true)
    {f6 : Addr} {od6 an6 : Option Addr} {sl6 : Array (Option Value)} {oc6 kV6 dc6 pm6 cd6 ct6 : Value}
    (a6 : PySem.W.nsIn K mainGlobals "times_in_product" = some (some (.ref f6))) (l6 : K.lookup f6 = some ⟨oc6, od6, .func (PySem.W.fnOf "times_in_product" "times_in_product" (defArgs t_times_in_product) (defBody t_times_in_product) (defScope t_times_in_product) .none kV6 dc6 pm6 an6 cd6 ct6), sl6⟩) (c6 : PySem.W.codeIn K cd6 "times_in_product" = true) (k6 : PySem.W.keepIn K (.ref f6) = true)
    {f7 : Addr} {od7 an7 : Option Addr} {sl7 : Array (Option Value)} {oc7 kV7 dc7 pm7 cd7 ct7 : Value}
    (a7 : PySem.W.nsIn K mainGlobals "product_rest" = some (some (.ref f7))) (l7 : K.lookup f7 = some ⟨oc7, od7, .func (PySem.W.fnOf "product_rest" "product_rest" (defArgs t_product_rest) (defBody t_product_rest) (defScope t_product_rest) .none kV7 dc7 pm7 an7 cd7 ct7), sl7⟩) (c7 : PySem.W.codeIn K cd7 "product_rest" = true) (k7 : PySem.W.keepIn K (.ref f7) = true)
    {f8 : Addr} {od8 an8 : Option Addr} {sl8 : Array (Option Value)} {oc8 kV8 dc8 pm8 cd8 ct8 : Value}
    (a8 : PySem.W.nsIn K mainGlobals "end_noughts" = some (some (.ref f8))) (l8 : K.lookup f8 = some ⟨oc8, od8, .func (PySem.W.fnOf "end_noughts" "end_noughts" (defArgs t_end_noughts) (defBody t_end_noughts) (defScope t_end_noughts) .none kV8 dc8 pm8 an8 cd8 ct8), sl8⟩) (c8 : PySem.W.codeIn K cd8 "end_noughts" = true) (k8 : PySem.W.keepIn K (.ref f8) = true)
    {f9 : Addr} {od9 an9 : Option Addr} {sl9 : Array (Option Value)} {oc9 kV9 dc9 pm9 cd9 ct9 : Value}
    (a9 : PySem.W.nsIn K mainGlobals "product_parting" = some (some (.ref f9))) (l9 : K.lookup f9 = some ⟨oc9, od9, .func (PySem.W.fnOf "product_parting" "product_parting" (defArgs t_product_parting) (defBody t_product_parting) (defScope t_product_parting) .none kV9 dc9 pm9 an9 cd9 ct9), sl9⟩) (c9 : PySem.W.codeIn K cd9 "product_parting" = true) (k9 : PySem.W.keepIn K (.ref f9) = true)
    {f10 : Addr} {od10 an10 : Option Addr} {sl10 : Array (Option Value)} {oc10 kV10 dc10 pm10 cd10 ct10 : Value}
    (a10 : PySem.W.nsIn K mainGlobals "all_multiple" = some (some (.ref f10))) (l10 : K.lookup f10 = some ⟨oc10, od10, .func (PySem.W.fnOf "all_multiple" "all_multiple" (defArgs t_all_multiple) (defBody t_all_multiple) (defScope t_all_multiple) .none kV10 dc10 pm10 an10 cd10 ct10), sl10⟩) (c10 : PySem.W.codeIn K cd10 "all_multiple" = true) (k10 : PySem.W.keepIn K (.ref f10) = true)
    {f11 : Addr} {od11 an11 : Option Addr} {sl11 : Array (Option Value)} {oc11 kV11 dc11 pm11 cd11 ct11 : Value}
    (a11 : PySem.W.nsIn K mainGlobals "figures_told" = some (some (.ref f11))) (l11 : K.lookup f11 = some ⟨oc11, od11, .func (PySem.W.fnOf "figures_told" "figures_told" (defArgs t_figures_told) (defBody t_figures_told) (defScope t_figures_told) .none kV11 dc11 pm11 an11 cd11 ct11), sl11⟩) (c11 : PySem.W.codeIn K cd11 "figures_told" = true) (k11 : PySem.W.keepIn K (.ref f11) = true)
    {f12 : Addr} {od12 an12 : Option Addr} {sl12 : Array (Option Value)} {oc12 kV12 dc12 pm12 cd12 ct12 : Value}
    (a12 : PySem.W.nsIn K mainGlobals "carried_places" = some (some (.ref f12))) (l12 : K.lookup f12 = some ⟨oc12, od12, .func (PySem.W.fnOf "carried_places" "carried_places" (defArgs t_carried_places) (defBody t_carried_places) (defScope t_carried_places) .none kV12 dc12 pm12 an12 cd12 ct12), sl12⟩) (c12 : PySem.W.codeIn K cd12 "carried_places" = true) (k12 : PySem.W.keepIn K (.ref f12) = true)
    {f13 : Addr} {od13 an13 : Option Addr} {sl13 : Array (Option Value)} {oc13 kV13 dc13 pm13 cd13 ct13 : Value}
    (a13 : PySem.W.nsIn K mainGlobals "times_in_choice" = some (some (.ref f13))) (l13 : K.lookup f13 = some ⟨oc13, od13, .func (PySem.W.fnOf "times_in_choice" "times_in_choice" (defArgs t_times_in_choice) (defBody t_times_in_choice) (defScope t_times_in_choice) .none kV13 dc13 pm13 an13 cd13 ct13), sl13⟩) (c13 : PySem.W.codeIn K cd13 "times_in_choice" = true) (k13 : PySem.W.keepIn K (.ref f13) = true)
    {f14 : Addr} {od14 an14 : Option Addr} {sl14 : Array (Option Value)} {oc14 kV14 dc14 pm14 cd14 ct14 : Value}
    (a14 : PySem.W.nsIn K mainGlobals "undivided_choices" = some (some (.ref f14))) (l14 : K.lookup f14 = some ⟨oc14, od14, .func (PySem.W.fnOf "undivided_choices" "undivided_choices" (defArgs t_undivided_choices) (defBody t_undivided_choices) (defScope t_undivided_choices) .none kV14 dc14 pm14 an14 cd14 ct14), sl14⟩) (c14 : PySem.W.codeIn K cd14 "undivided_choices" = true) (k14 : PySem.W.keepIn K (.ref f14) = true)
    {f15 : Addr} {od15 an15 : Option Addr} {sl15 : Array (Option Value)} {oc15 kV15 dc15 pm15 cd15 ct15 : Value}
    (a15 : PySem.W.nsIn K mainGlobals "choose" = some (some (.ref f15))) (l15 : K.lookup f15 = some ⟨oc15, od15, .func (PySem.W.fnOf "choose" "choose" (defArgs t_choose) (defBody t_choose) (defScope t_choose) .none kV15 dc15 pm15 an15 cd15 ct15), sl15⟩) (c15 : PySem.W.codeIn K cd15 "choose" = true) (k15 : PySem.W.keepIn K (.ref f15) = true)
    {f16 : Addr} {od16 an16 : Option Addr} {sl16 : Array (Option Value)} {oc16 kV16 dc16 pm16 cd16 ct16 : Value}
    (a16 : PySem.W.nsIn K mainGlobals "choice_rest" = some (some (.ref f16))) (l16 : K.lookup f16 = some ⟨oc16, od16, .func (PySem.W.fnOf "choice_rest" "choice_rest" (defArgs t_choice_rest) (defBody t_choice_rest) (defScope t_choice_rest) .none kV16 dc16 pm16 an16 cd16 ct16), sl16⟩) (c16 : PySem.W.codeIn K cd16 "choice_rest" = true) (k16 : PySem.W.keepIn K (.ref f16) = true)
    {f17 : Addr} {od17 an17 : Option Addr} {sl17 : Array (Option Value)} {oc17 kV17 dc17 pm17 cd17 ct17 : Value}
    (a17 : PySem.W.nsIn K mainGlobals "_law_power" = some (some (.ref f17))) (l17 : K.lookup f17 = some ⟨oc17, od17, .func (PySem.W.fnOf "_law_power" "_law_power" (defArgs t__law_power) (defBody t__law_power) (defScope t__law_power) .none kV17 dc17 pm17 an17 cd17 ct17), sl17⟩) (c17 : PySem.W.codeIn K cd17 "_law_power" = true) (k17 : PySem.W.keepIn K (.ref f17) = true)
    {f18 : Addr} {od18 an18 : Option Addr} {sl18 : Array (Option Value)} {oc18 kV18 dc18 pm18 cd18 ct18 : Value}
    (a18 : PySem.W.nsIn K mainGlobals "_law_raised" = some (some (.ref f18))) (l18 : K.lookup f18 = some ⟨oc18, od18, .func (PySem.W.fnOf "_law_raised" "_law_raised" (defArgs t__law_raised) (defBody t__law_raised) (defScope t__law_raised) .none kV18 dc18 pm18 an18 cd18 ct18), sl18⟩) (c18 : PySem.W.codeIn K cd18 "_law_raised" = true) (k18 : PySem.W.keepIn K (.ref f18) = true)
    {f19 : Addr} {od19 an19 : Option Addr} {sl19 : Array (Option Value)} {oc19 kV19 dc19 pm19 cd19 ct19 : Value}
    (a19 : PySem.W.nsIn K mainGlobals "_law_is_prime" = some (some (.ref f19))) (l19 : K.lookup f19 = some ⟨oc19, od19, .func (PySem.W.fnOf "_law_is_prime" "_law_is_prime" (defArgs t__law_is_prime) (defBody t__law_is_prime) (defScope t__law_is_prime) .none kV19 dc19 pm19 an19 cd19 ct19), sl19⟩) (c19 : PySem.W.codeIn K cd19 "_law_is_prime" = true) (k19 : PySem.W.keepIn K (.ref f19) = true)
    {f20 : Addr} {od20 an20 : Option Addr} {sl20 : Array (Option Value)} {oc20 kV20 dc20 pm20 cd20 ct20 : Value}
    (a20 : PySem.W.nsIn K mainGlobals "_law_parting" = some (some (.ref f20))) (l20 : K.lookup f20 = some ⟨oc20, od20, .func (PySem.W.fnOf "_law_parting" "_law_parting" (defArgs t__law_parting) (defBody t__law_parting) (defScope t__law_parting) .none kV20 dc20 pm20 an20 cd20 ct20), sl20⟩) (c20 : PySem.W.codeIn K cd20 "_law_parting" = true) (k20 : PySem.W.keepIn K (.ref f20) = true)
    {f21 : Addr} {od21 an21 : Option Addr} {sl21 : Array (Option Value)} {oc21 kV21 dc21 pm21 cd21 ct21 : Value}
    (a21 : PySem.W.nsIn K mainGlobals "_law_primes_to" = some (some (.ref f21))) (l21 : K.lookup f21 = some ⟨oc21, od21, .func (PySem.W.fnOf "_law_primes_to" "_law_primes_to" (defArgs t__law_primes_to) (defBody t__law_primes_to) (defScope t__law_primes_to) .none kV21 dc21 pm21 an21 cd21 ct21), sl21⟩) (c21 : PySem.W.codeIn K cd21 "_law_primes_to" = true) (k21 : PySem.W.keepIn K (.ref f21) = true)
    {f22 : Addr} {od22 an22 : Option Addr} {sl22 : Array (Option Value)} {oc22 kV22 dc22 pm22 cd22 ct22 : Value}
    (a22 : PySem.W.nsIn K mainGlobals "_law_times" = some (some (.ref f22))) (l22 : K.lookup f22 = some ⟨oc22, od22, .func (PySem.W.fnOf "_law_times" "_law_times" (defArgs t__law_times) (defBody t__law_times) (defScope t__law_times) .none kV22 dc22 pm22 an22 cd22 ct22), sl22⟩) (c22 : PySem.W.codeIn K cd22 "_law_times" = true) (k22 : PySem.W.keepIn K (.ref f22) = true)
    {f23 : Addr} {od23 an23 : Option Addr} {sl23 : Array (Option Value)} {oc23 kV23 dc23 pm23 cd23 ct23 : Value}
    (a23 : PySem.W.nsIn K mainGlobals "_law_figures" = some (some (.ref f23))) (l23 : K.lookup f23 = some ⟨oc23, od23, .func (PySem.W.fnOf "_law_figures" "_law_figures" (defArgs t__law_figures) (defBody t__law_figures) (defScope t__law_figures) .none kV23 dc23 pm23 an23 cd23 ct23), sl23⟩) (c23 : PySem.W.codeIn K cd23 "_law_figures" = true) (k23 : PySem.W.keepIn K (.ref f23) = true)
    {f24 : Addr} {od24 an24 : Option Addr} {sl24 : Array (Option Value)} {oc24 kV24 dc24 pm24 cd24 ct24 : Value}
    (a24 : PySem.W.nsIn K mainGlobals "_law_choose" = some (some (.ref f24))) (l24 : K.lookup f24 = some ⟨oc24, od24, .func (PySem.W.fnOf "_law_choose" "_law_choose" (defArgs t__law_choose) (defBody t__law_choose) (defScope t__law_choose) .none kV24 dc24 pm24 an24 cd24 ct24), sl24⟩) (c24 : PySem.W.codeIn K cd24 "_law_choose" = true) (k24 : PySem.W.keepIn K (.ref f24) = true)
    {f25 : Addr} {od25 an25 : Option Addr} {sl25 : Array (Option Value)} {oc25 kV25 dc25 pm25 cd25 ct25 : Value}
    (a25 : PySem.W.nsIn K mainGlobals "_law_products" = some (some (.ref f25))) (l25 : K.lookup f25 = some ⟨oc25, od25, .func (PySem.W.fnOf "_law_products" "_law_products" (defArgs t__law_products) (defBody t__law_products) (defScope t__law_products) .none kV25 dc25 pm25 an25 cd25 ct25), sl25⟩) (c25 : PySem.W.codeIn K cd25 "_law_products" = true) (k25 : PySem.W.keepIn K (.ref f25) = true)
    {f26 : Addr} {od26 an26 : Option Addr} {sl26 : Array (Option Value)} {oc26 kV26 dc26 pm26 cd26 ct26 : Value}
    (a26 : PySem.W.nsIn K mainGlobals "_law_rest" = some (some (.ref f26))) (l26 : K.lookup f26 = some ⟨oc26, od26, .func (PySem.W.fnOf "_law_rest" "_law_rest" (defArgs t__law_rest) (defBody t__law_rest) (defScope t__law_rest) .none kV26 dc26 pm26 an26 cd26 ct26), sl26⟩) (c26 : PySem.W.codeIn K cd26 "_law_rest" = true) (k26 : PySem.W.keepIn K (.ref f26) = true)
    {f27 : Addr} {od27 an27 : Option Addr} {sl27 : Array (Option Value)} {oc27 kV27 dc27 pm27 cd27 ct27 : Value}
    (a27 : PySem.W.nsIn K mainGlobals "_law_carried" = some (some (.ref f27))) (l27 : K.lookup f27 = some ⟨oc27, od27, .func (PySem.W.fnOf "_law_carried" "_law_carried" (defArgs t__law_carried) (defBody t__law_carried) (defScope t__law_carried) .none kV27 dc27 pm27 an27 cd27 ct27), sl27⟩) (c27 : PySem.W.codeIn K cd27 "_law_carried" = true) (k27 : PySem.W.keepIn K (.ref f27) = true)
    {f28 : Addr} {od28 an28 : Option Addr} {sl28 : Array (Option Value)} {oc28 kV28 dc28 pm28 cd28 ct28 : Value}
    (a28 : PySem.W.nsIn K mainGlobals "_law_choice_rest" = some (some (.ref f28))) (l28 : K.lookup f28 = some ⟨oc28, od28, .func (PySem.W.fnOf "_law_choice_rest" "_law_choice_rest" (defArgs t__law_choice_rest) (defBody t__law_choice_rest) (defScope t__law_choice_rest) .none kV28 dc28 pm28 an28 cd28 ct28), sl28⟩) (c28 : PySem.W.codeIn K cd28 "_law_choice_rest" = true) (k28 : PySem.W.keepIn K (.ref f28) = true)
    {f29 : Addr} {od29 an29 : Option Addr} {sl29 : Array (Option Value)} {oc29 kV29 dc29 pm29 cd29 ct29 : Value}
    (a29 : PySem.W.nsIn K mainGlobals "_law_draw" = some (some (.ref f29))) (l29 : K.lookup f29 = some ⟨oc29, od29, .func (PySem.W.fnOf "_law_draw" "_law_draw" (defArgs t__law_draw) (defBody t__law_draw) (defScope t__law_draw) .none kV29 dc29 pm29 an29 cd29 ct29), sl29⟩) (c29 : PySem.W.codeIn K cd29 "_law_draw" = true) (k29 : PySem.W.keepIn K (.ref f29) = true)
    {f30 : Addr} {od30 an30 : Option Addr} {sl30 : Array (Option Value)} {oc30 kV30 dc30 pm30 cd30 ct30 : Value}
    (a30 : PySem.W.nsIn K mainGlobals "_law_pick" = some (some (.ref f30))) (l30 : K.lookup f30 = some ⟨oc30, od30, .func (PySem.W.fnOf "_law_pick" "_law_pick" (defArgs t__law_pick) (defBody t__law_pick) (defScope t__law_pick) .none kV30 dc30 pm30 an30 cd30 ct30), sl30⟩) (c30 : PySem.W.codeIn K cd30 "_law_pick" = true) (k30 : PySem.W.keepIn K (.ref f30) = true)
    {f31 : Addr} {od31 an31 : Option Addr} {sl31 : Array (Option Value)} {oc31 kV31 dc31 pm31 cd31 ct31 : Value}
    (a31 : PySem.W.nsIn K mainGlobals "_law_prime" = some (some (.ref f31))) (l31 : K.lookup f31 = some ⟨oc31, od31, .func (PySem.W.fnOf "_law_prime" "_law_prime" (defArgs t__law_prime) (defBody t__law_prime) (defScope t__law_prime) .none kV31 dc31 pm31 an31 cd31 ct31), sl31⟩) (c31 : PySem.W.codeIn K cd31 "_law_prime" = true) (k31 : PySem.W.keepIn K (.ref f31) = true)
    {f32 : Addr} {od32 an32 : Option Addr} {sl32 : Array (Option Value)} {oc32 kV32 dc32 pm32 cd32 ct32 : Value}
    (a32 : PySem.W.nsIn K mainGlobals "_law_are_rows_right" = some (some (.ref f32))) (l32 : K.lookup f32 = some ⟨oc32, od32, .func (PySem.W.fnOf "_law_are_rows_right" "_law_are_rows_right" (defArgs t__law_are_rows_right) (defBody t__law_are_rows_right) (defScope t__law_are_rows_right) .none kV32 dc32 pm32 an32 cd32 ct32), sl32⟩) (c32 : PySem.W.codeIn K cd32 "_law_are_rows_right" = true) (k32 : PySem.W.keepIn K (.ref f32) = true)
    {f33 : Addr} {od33 an33 : Option Addr} {sl33 : Array (Option Value)} {oc33 kV33 dc33 pm33 cd33 ct33 : Value}
    (a33 : PySem.W.nsIn K mainGlobals "_law_pot" = some (some (.ref f33))) (l33 : K.lookup f33 = some ⟨oc33, od33, .func (PySem.W.fnOf "_law_pot" "_law_pot" (defArgs t__law_pot) (defBody t__law_pot) (defScope t__law_pot) .none kV33 dc33 pm33 an33 cd33 ct33), sl33⟩) (c33 : PySem.W.codeIn K cd33 "_law_pot" = true) (k33 : PySem.W.keepIn K (.ref f33) = true)
    {f34 : Addr} {od34 an34 : Option Addr} {sl34 : Array (Option Value)} {oc34 kV34 dc34 pm34 cd34 ct34 : Value}
    (a34 : PySem.W.nsIn K mainGlobals "law" = some (some (.ref f34))) (l34 : K.lookup f34 = some ⟨oc34, od34, .func (PySem.W.fnOf "law" "law" (defArgs t_law) (defBody t_law) (defScope t_law) .none kV34 dc34 pm34 an34 cd34 ct34), sl34⟩) (c34 : PySem.W.codeIn K cd34 "law" = true) (k34 : PySem.W.keepIn K (.ref f34) = true)
    (z0 : PySem.W.nsIn K mainGlobals "abs" = some none) (z1 : PySem.W.nsIn K mainGlobals "all" = some none) (z2 : PySem.W.nsIn K mainGlobals "enumerate" = some none) (z3 : PySem.W.nsIn K mainGlobals "int" = some none) (z4 : PySem.W.nsIn K mainGlobals "len" = some none) (z5 : PySem.W.nsIn K mainGlobals "max" = some none) (z6 : PySem.W.nsIn K mainGlobals "min" = some none) (z7 : PySem.W.nsIn K mainGlobals "range" = some none) (z8 : PySem.W.nsIn K mainGlobals "repr" = some none) (z9 : PySem.W.nsIn K mainGlobals "sum" = some none) (z10 : PySem.W.nsIn K mainGlobals "tuple" = some none) :
    ∃ fd : FuncData, (∀ (s : Shared) (v : Value), BindsTo s fd ⟨[v], []⟩ [("script", v)]) ∧ ∀ base : Heap, K.In base → base.Ns mainGlobals mg → base.NoDigits → FnG l.prog w K mg base CX0 6 fa fd ["script"] (spLaw K okLaw) := by
  have e := hfa.symm.trans (PySem.W.mg_of X G a34)
  cases e
  have F0 := fun_mk (st := t_taken_out) l0 c0 k0
  have F1 := fun_mk (st := t_power_left) l1 c1 k1
  have F2 := fun_mk (st := t_does_pass) l2 c2 k2
  have F3 := fun_mk (st := t_is_prime_number) l3 c3 k3
  have F4 := fun_mk (st := t_primes_of) l4 c4 k4
  have F5 := fun_mk (st := t_primes_to) l5 c5 k5
  have F6 := fun_mk (st := t_times_in_product) l6 c6 k6
  have F7 := fun_mk (st := t_product_rest) l7 c7 k7
  have F8 := fun_mk (st := t_end_noughts) l8 c8 k8
  have F9 := fun_mk (st := t_product_parting) l9 c9 k9
  have F10 := fun_mk (st := t_all_multiple) l10 c10 k10
  have F11 := fun_mk (st := t_figures_told) l11 c11 k11
  have F12 := fun_mk (st := t_carried_places) l12 c12 k12
  have F13 := fun_mk (st := t_times_in_choice) l13 c13 k13
  have F14 := fun_mk (st := t_undivided_choices) l14 c14 k14
  have F15 := fun_mk (st := t_choose) l15 c15 k15
  have F16 := fun_mk (st := t_choice_rest) l16 c16 k16
  have F17 := fun_mk (st := t__law_power) l17 c17 k17
  have F18 := fun_mk (st := t__law_raised) l18 c18 k18
  have F19 := fun_mk (st := t__law_is_prime) l19 c19 k19
  have F20 := fun_mk (st := t__law_parting) l20 c20 k20
  have F21 := fun_mk (st := t__law_primes_to) l21 c21 k21
  have F22 := fun_mk (st := t__law_times) l22 c22 k22
  have F23 := fun_mk (st := t__law_figures) l23 c23 k23
  have F24 := fun_mk (st := t__law_choose) l24 c24 k24
  have F25 := fun_mk (st := t__law_products) l25 c25 k25
  have F26 := fun_mk (st := t__law_rest) l26 c26 k26
  have F27 := fun_mk (st := t__law_carried) l27 c27 k27
  have F28 := fun_mk (st := t__law_choice_rest) l28 c28 k28
  have F29 := fun_mk (st := t__law_draw) l29 c29 k29
  have F30 := fun_mk (st := t__law_pick) l30 c30 k30
  have F31 := fun_mk (st := t__law_prime) l31 c31 k31
  have F32 := fun_mk (st := t__law_are_rows_right) l32 c32 k32
  have F33 := fun_mk (st := t__law_pot) l33 c33 k33
  have F34 := fun_mk (st := t_law) l34 c34 k34
  have b0 := F0.binds (ps := ["number", "p"]) fun _ _ _ _ _ _ us hl => match us, hl with | [_, _], _ => rfl
  have b1 := F1.binds (ps := ["base", "often", "number"]) fun _ _ _ _ _ _ us hl => match us, hl with | [_, _, _], _ => rfl
  have b2 := F2.binds (ps := ["number", "base", "often", "odd"]) fun _ _ _ _ _ _ us hl => match us, hl with | [_, _, _, _], _ => rfl
  have b3 := F3.binds (ps := ["number"]) fun _ _ _ _ _ _ us hl => match us, hl with | [_], _ => rfl
  have b4 := F4.binds (ps := ["number"]) fun _ _ _ _ _ _ us hl => match us, hl with | [_], _ => rfl
  have b5 := F5.binds (ps := ["many"]) fun _ _ _ _ _ _ us hl => match us, hl with | [_], _ => rfl
  have b6 := F6.binds (ps := ["n", "p"]) fun _ _ _ _ _ _ us hl => match us, hl with | [_, _], _ => rfl
  have b7 := F7.binds (ps := ["n", "p"]) fun _ _ _ _ _ _ us hl => match us, hl with | [_, _], _ => rfl
  have b8 := F8.binds (ps := ["n", "base"]) fun _ _ _ _ _ _ us hl => match us, hl with | [_, _], _ => rfl
  have b9 := F9.binds (ps := ["n"]) fun _ _ _ _ _ _ us hl => match us, hl with | [_], _ => rfl
  have b10 := F10.binds (ps := ["n"]) fun _ _ _ _ _ _ us hl => match us, hl with | [_], _ => rfl
  have b11 := F11.binds (ps := ["n", "p"]) fun _ _ _ _ _ _ us hl => match us, hl with | [_, _], _ => rfl
  have b12 := F12.binds (ps := ["n", "k", "p"]) fun _ _ _ _ _ _ us hl => match us, hl with | [_, _, _], _ => rfl
  have b13 := F13.binds (ps := ["n", "k", "p"]) fun _ _ _ _ _ _ us hl => match us, hl with | [_, _, _], _ => rfl
  have b14 := F14.binds (ps := ["n", "p"]) fun _ _ _ _ _ _ us hl => match us, hl with | [_, _], _ => rfl
  have b15 := F15.binds (ps := ["n", "k"]) fun _ _ _ _ _ _ us hl => match us, hl with | [_, _], _ => rfl
  have b16 := F16.binds (ps := ["n", "k", "p"]) fun _ _ _ _ _ _ us hl => match us, hl with | [_, _, _], _ => rfl
  have b17 := F17.binds (ps := ["a", "k", "m"]) fun _ _ _ _ _ _ us hl => match us, hl with | [_, _, _], _ => rfl
  have b18 := F18.binds (ps := ["a", "k"]) fun _ _ _ _ _ _ us hl => match us, hl with | [_, _], _ => rfl
  have b19 := F19.binds (ps := ["number"]) fun _ _ _ _ _ _ us hl => match us, hl with | [_], _ => rfl
  have b20 := F20.binds (ps := ["number"]) fun _ _ _ _ _ _ us hl => match us, hl with | [_], _ => rfl
  have b21 := F21.binds (ps := ["most"]) fun _ _ _ _ _ _ us hl => match us, hl with | [_], _ => rfl
  have b22 := F22.binds (ps := ["n", "p"]) fun _ _ _ _ _ _ us hl => match us, hl with | [_, _], _ => rfl
  have b23 := F23.binds (ps := ["n", "p"]) fun _ _ _ _ _ _ us hl => match us, hl with | [_, _], _ => rfl
  have b24 := F24.binds (ps := ["n", "k"]) fun _ _ _ _ _ _ us hl => match us, hl with | [_, _], _ => rfl
  have b25 := F25.binds (ps := ["p"]) fun _ _ _ _ _ _ us hl => match us, hl with | [_], _ => rfl
  have b26 := F26.binds (ps := ["n", "p", "products"]) fun _ _ _ _ _ _ us hl => match us, hl with | [_, _, _], _ => rfl
  have b27 := F27.binds (ps := ["n", "k", "p"]) fun _ _ _ _ _ _ us hl => match us, hl with | [_, _, _], _ => rfl
  have b28 := F28.binds (ps := ["n", "k", "p", "products"]) fun _ _ _ _ _ _ us hl => match us, hl with | [_, _, _, _], _ => rfl
  have b29 := F29.binds (ps := ["pot", "many"]) fun _ _ _ _ _ _ us hl => match us, hl with | [_, _], _ => rfl
  have b30 := F30.binds (ps := ["pot", "row"]) fun _ _ _ _ _ _ us hl => match us, hl with | [_, _], _ => rfl
  have b31 := F31.binds (ps := ["pot"]) fun _ _ _ _ _ _ us hl => match us, hl with | [_], _ => rfl
  have b32 := F32.binds (ps := ["pot"]) fun _ _ _ _ _ _ us hl => match us, hl with | [_], _ => rfl
  have b33 := F33.binds (ps := ["script"]) fun _ _ _ _ _ _ us hl => match us, hl with | [_], _ => rfl
  refine ⟨PySem.W.fnOf "law" "law" (defArgs t_law) (defBody t_law) (defScope t_law) .none kV34 dc34 pm34 an34 cd34 ct34, fun s v => .of_eq rfl, fun base _ _ nd => ?_⟩
  have T : Tx mg base := ⟨nd, PySem.W.mg_none_of X G z0, PySem.W.mg_none_of X G z1, PySem.W.mg_none_of X G z2, PySem.W.mg_none_of X G z3, PySem.W.mg_none_of X G z4, PySem.W.mg_none_of X G z5, PySem.W.mg_none_of X G z6, PySem.W.mg_none_of X G z7, PySem.W.mg_none_of X G z8, PySem.W.mg_none_of X G z9, PySem.W.mg_none_of X G z10⟩
  have D0 : Dk l.prog w K mg base "taken_out" t_taken_out 1 ["number", "p"] (sp_taken_out K) := ⟨_, _, F0, PySem.W.mg_of X G a0, g_taken_out T  F0, b0⟩
  have D1 : Dk l.prog w K mg base "power_left" t_power_left 1 ["base", "often", "number"] (sp_power_left K) := ⟨_, _, F1, PySem.W.mg_of X G a1, g_power_left T  F1, b1⟩
  have D2 : Dk l.prog w K mg base "does_pass" t_does_pass 2 ["number", "base", "often", "odd"] (sp_does_pass K) := ⟨_, _, F2, PySem.W.mg_of X G a2, g_does_pass T D1 F2, b2⟩
  have D3 : Dk l.prog w K mg base "is_prime_number" t_is_prime_number 3 ["number"] (sp_is_prime_number K) := ⟨_, _, F3, PySem.W.mg_of X G a3, g_is_prime_number T D0 D2 F3, b3⟩
  have D4 : Dk l.prog w K mg base "primes_of" t_primes_of 4 ["number"] (sp_primes_of K) := ⟨_, _, F4, PySem.W.mg_of X G a4, g_primes_of T D0 D3 F4, b4⟩
  have D5 : Dk l.prog w K mg base "primes_to" t_primes_to 1 ["many"] (sp_primes_to K) := ⟨_, _, F5, PySem.W.mg_of X G a5, g_primes_to T  F5, b5⟩
  have D6 : Dk l.prog w K mg base "times_in_product" t_times_in_product 1 ["n", "p"] (sp_times_in_product K) := ⟨_, _, F6, PySem.W.mg_of X G a6, g_times_in_product T  F6, b6⟩
  have D7 : Dk l.prog w K mg base "product_rest" t_product_rest 1 ["n", "p"] (sp_product_rest K) := ⟨_, _, F7, PySem.W.mg_of X G a7, g_product_rest T  F7, b7⟩
  have D8 : Dk l.prog w K mg base "end_noughts" t_end_noughts 5 ["n", "base"] (sp_end_noughts K) := ⟨_, _, F8, PySem.W.mg_of X G a8, g_end_noughts T D4 D6 F8, b8⟩
  have D9 : Dk l.prog w K mg base "product_parting" t_product_parting 2 ["n"] (sp_product_parting K) := ⟨_, _, F9, PySem.W.mg_of X G a9, g_product_parting T D5 D6 F9, b9⟩
  have D10 : Dk l.prog w K mg base "all_multiple" t_all_multiple 2 ["n"] (sp_all_multiple K) := ⟨_, _, F10, PySem.W.mg_of X G a10, g_all_multiple T D5 F10, b10⟩
  have D11 : Dk l.prog w K mg base "figures_told" t_figures_told 1 ["n", "p"] (sp_figures_told K) := ⟨_, _, F11, PySem.W.mg_of X G a11, g_figures_told T  F11, b11⟩
  have D12 : Dk l.prog w K mg base "carried_places" t_carried_places 1 ["n", "k", "p"] (sp_carried_places K) := ⟨_, _, F12, PySem.W.mg_of X G a12, g_carried_places T  F12, b12⟩
  have D13 : Dk l.prog w K mg base "times_in_choice" t_times_in_choice 2 ["n", "k", "p"] (sp_times_in_choice K) := ⟨_, _, F13, PySem.W.mg_of X G a13, g_times_in_choice T D12 F13, b13⟩
  have D14 : Dk l.prog w K mg base "undivided_choices" t_undivided_choices 2 ["n", "p"] (sp_undivided_choices K) := ⟨_, _, F14, PySem.W.mg_of X G a14, g_undivided_choices T D11 F14, b14⟩
  have D15 : Dk l.prog w K mg base "choose" t_choose 1 ["n", "k"] (sp_choose K) := ⟨_, _, F15, PySem.W.mg_of X G a15, g_choose T  F15, b15⟩
  have D16 : Dk l.prog w K mg base "choice_rest" t_choice_rest 2 ["n", "k", "p"] (sp_choice_rest K) := ⟨_, _, F16, PySem.W.mg_of X G a16, g_choice_rest T D15 F16, b16⟩
  have D17 : Dk l.prog w K mg base "_law_power" t__law_power 1 ["a", "k", "m"] (sp__law_power K) := ⟨_, _, F17, PySem.W.mg_of X G a17, g__law_power T  F17, b17⟩
  have D18 : Dk l.prog w K mg base "_law_raised" t__law_raised 1 ["a", "k"] (sp__law_raised K) := ⟨_, _, F18, PySem.W.mg_of X G a18, g__law_raised T  F18, b18⟩
  have D19 : Dk l.prog w K mg base "_law_is_prime" t__law_is_prime 1 ["number"] (sp__law_is_prime K) := ⟨_, _, F19, PySem.W.mg_of X G a19, g__law_is_prime T  F19, b19⟩
  have D20 : Dk l.prog w K mg base "_law_parting" t__law_parting 1 ["number"] (sp__law_parting K) := ⟨_, _, F20, PySem.W.mg_of X G a20, g__law_parting T  F20, b20⟩
  have D21 : Dk l.prog w K mg base "_law_primes_to" t__law_primes_to 1 ["most"] (sp__law_primes_to K) := ⟨_, _, F21, PySem.W.mg_of X G a21, g__law_primes_to T  F21, b21⟩
  have D22 : Dk l.prog w K mg base "_law_times" t__law_times 1 ["n", "p"] (sp__law_times K) := ⟨_, _, F22, PySem.W.mg_of X G a22, g__law_times T  F22, b22⟩
  have D23 : Dk l.prog w K mg base "_law_figures" t__law_figures 1 ["n", "p"] (sp__law_figures K) := ⟨_, _, F23, PySem.W.mg_of X G a23, g__law_figures T  F23, b23⟩
  have D24 : Dk l.prog w K mg base "_law_choose" t__law_choose 1 ["n", "k"] (sp__law_choose K) := ⟨_, _, F24, PySem.W.mg_of X G a24, g__law_choose T  F24, b24⟩
  have D25 : Dk l.prog w K mg base "_law_products" t__law_products 1 ["p"] (sp__law_products K) := ⟨_, _, F25, PySem.W.mg_of X G a25, g__law_products T  F25, b25⟩
  have D26 : Dk l.prog w K mg base "_law_rest" t__law_rest 1 ["n", "p", "products"] (sp__law_rest K) := ⟨_, _, F26, PySem.W.mg_of X G a26, g__law_rest T  F26, b26⟩
  have D27 : Dk l.prog w K mg base "_law_carried" t__law_carried 2 ["n", "k", "p"] (sp__law_carried K) := ⟨_, _, F27, PySem.W.mg_of X G a27, g__law_carried T D23 F27, b27⟩
  have D28 : Dk l.prog w K mg base "_law_choice_rest" t__law_choice_rest 2 ["n", "k", "p", "products"] (sp__law_choice_rest K) := ⟨_, _, F28, PySem.W.mg_of X G a28, g__law_choice_rest T D17 F28, b28⟩
  have D29 : Dk l.prog w K mg base "_law_draw" t__law_draw 1 ["pot", "many"] (sp__law_draw K) := ⟨_, _, F29, PySem.W.mg_of X G a29, g__law_draw T  F29, b29⟩
  have D30 : Dk l.prog w K mg base "_law_pick" t__law_pick 2 ["pot", "row"] (sp__law_pick K) := ⟨_, _, F30, PySem.W.mg_of X G a30, g__law_pick T D29 F30, b30⟩
  have D31 : Dk l.prog w K mg base "_law_prime" t__law_prime 3 ["pot"] (sp__law_prime K) := ⟨_, _, F31, PySem.W.mg_of X G a31, g__law_prime T D30 D29 D19 F31, b31⟩
  have D32 : Dk l.prog w K mg base "_law_are_rows_right" t__law_are_rows_right 3 ["pot"] (sp__law_are_rows_right K) := ⟨_, _, F32, PySem.W.mg_of X G a32, g__law_are_rows_right T D29 D30 D21 D22 D9 D10 F32, b32⟩
  have D33 : Dk l.prog w K mg base "_law_pot" t__law_pot 1 ["script"] (sp__law_pot K) := ⟨_, _, F33, PySem.W.mg_of X G a33, g__law_pot T  F33, b33⟩
  exact g_law T D33 D31 D29 D30 D25 D23 D18 D22 D26 D6 D7 D11 D27 D28 D12 D13 D16 D14 D24 D20 D8 D32 F34
theorem walk_law {l : PySem.W.OpenLaw} {q : Program} {loose : List Str} {XP : (Str → Option Value) → Heap → Prop} {YP : World → Heap → Prop} {d : DefRec} {K : Params → PySem.W.Frag} (main : ∀ ns : List Int, ns.length ≤ 63 → (∀ i ∈ ns, Builtin.Int.intBits i ≤ 1048576) → okLaw ns) (hn : l.most = some 63) (hdf : d.params.defaults = [])
    (hY : ∀ (w : World) (h : Heap), YP w h → (K w.params).In h)
    (F : ∀ (w : World) (mg : Str → Option Value) (fa : Addr) (h : Heap), (K w.params).In h → h.Ns mainGlobals mg → mg d.name = some (.ref fa) →
      ∃ fd : FuncData, (∀ (s : Shared) (u : Value), BindsTo s fd ⟨[u], []⟩ [("script", u)]) ∧ ∀ base : Heap, (K w.params).In base → base.Ns mainGlobals mg → base.NoDigits → FnG l.prog w (K w.params) mg base CX0 6 fa fd ["script"] (spLaw (K w.params) okLaw)) :
    PySem.W.WalkO q loose XP YP l.row.toRowW d [] (fun f vs => PySem.call f vs) :=
  walk_G (n := 63) (k := 6) (x := "script") (CX := CX0) (sp := fun K => spLaw K okLaw) hn (by decide) hdf ⟨rfl, by decide, by decide⟩ hY F (fun K H a ns hl hb hS => ⟨ns, ⟨.ref a, rfl, a, rfl, hS⟩, main ns hl hb, fun _ => rfl⟩) fun _ _ _ _ z => z
end Wk
open PySem PySem.W PyProof.Rows in
set_option maxRecDepth 100000 in
set_option maxHeartbeats 0 in
theorem PySem.Challenge.cw_divisorways_k97_whole_factorial_parts_holds : PySem.Challenge.rw_divisorways_k97_whole_factorial_parts.Holds := by
  w_on; o_law; k_head; (case hw => w_witness2)
  k_fill
  refine Wk.walk_law (l := PySem.Challenge.rw_divisorways_k97_whole_factorial_parts) Wk.main_law rfl rfl (fun w h Y => PySem.W.kIn_of Y) ?F
  case F =>
    intro w mg fa h KX G hmg
    refine' Wk.all_mk KX G hmg ?a0 ?l0 ?c0 ?k0 ?a1 ?l1 ?c1 ?k1 ?a2 ?l2 ?c2 ?k2 ?a3 ?l3 ?c3 ?k3 ?a4 ?l4 ?c4 ?k4 ?a5 ?l5 ?c5 ?k5 ?a6 ?l6 ?c6 ?k6 ?a7 ?l7 ?c7 ?k7 ?a8 ?l8 ?c8 ?k8 ?a9 ?l9 ?c9 ?k9 ?a10 ?l10 ?c10 ?k10 ?a11 ?l11 ?c11 ?k11 ?a12 ?l12 ?c12 ?k12 ?a13 ?l13 ?c13 ?k13 ?a14 ?l14 ?c14 ?k14 ?a15 ?l15 ?c15 ?k15 ?a16 ?l16 ?c16 ?k16 ?a17 ?l17 ?c17 ?k17 ?a18 ?l18 ?c18 ?k18 ?a19 ?l19 ?c19 ?k19 ?a20 ?l20 ?c20 ?k20 ?a21 ?l21 ?c21 ?k21 ?a22 ?l22 ?c22 ?k22 ?a23 ?l23 ?c23 ?k23 ?a24 ?l24 ?c24 ?k24 ?a25 ?l25 ?c25 ?k25 ?a26 ?l26 ?c26 ?k26 ?a27 ?l27 ?c27 ?k27 ?a28 ?l28 ?c28 ?k28 ?a29 ?l29 ?c29 ?k29 ?a30 ?l30 ?c30 ?k30 ?a31 ?l31 ?c31 ?k31 ?a32 ?l32 ?c32 ?k32 ?a33 ?l33 ?c33 ?k33 ?a34 ?l34 ?c34 ?k34 ?z0 ?z1 ?z2 ?z3 ?z4 ?z5 ?z6 ?z7 ?z8 ?z9 ?z10
    (case a0 => k_is)
    (case l0 => k_is)
    (case c0 => k_is)
    (case k0 => k_is)
    (case a1 => k_is)
    (case l1 => k_is)
    (case c1 => k_is)
    (case k1 => k_is)
    (case a2 => k_is)
    (case l2 => k_is)
    (case c2 => k_is)
    (case k2 => k_is)
    (case a3 => k_is)
    (case l3 => k_is)
    (case c3 => k_is)
    (case k3 => k_is)
    (case a4 => k_is)
    (case l4 => k_is)
    (case c4 => k_is)
    (case k4 => k_is)
    (case a5 => k_is)
    (case l5 => k_is)
    (case c5 => k_is)
    (case k5 => k_is)
    (case a6 => k_is)
    (case l6 => k_is)
    (case c6 => k_is)
    (case k6 => k_is)
    (case a7 => k_is)
    (case l7 => k_is)
    (case c7 => k_is)
    (case k7 => k_is)
    (case a8 => k_is)
    (case l8 => k_is)
    (case c8 => k_is)
    (case k8 => k_is)
    (case a9 => k_is)
    (case l9 => k_is)
    (case c9 => k_is)
    (case k9 => k_is)
    (case a10 => k_is)
    (case l10 => k_is)
    (case c10 => k_is)
    (case k10 => k_is)
    (case a11 => k_is)
    (case l11 => k_is)
    (case c11 => k_is)
    (case k11 => k_is)
    (case a12 => k_is)
    (case l12 => k_is)
    (case c12 => k_is)
    (case k12 => k_is)
    (case a13 => k_is)
    (case l13 => k_is)
    (case c13 => k_is)
    (case k13 => k_is)
    (case a14 => k_is)
    (case l14 => k_is)
    (case c14 => k_is)
    (case k14 => k_is)
    (case a15 => k_is)
    (case l15 => k_is)
    (case c15 => k_is)
    (case k15 => k_is)
    (case a16 => k_is)
    (case l16 => k_is)
    (case c16 => k_is)
    (case k16 => k_is)
    (case a17 => k_is)
    (case l17 => k_is)
    (case c17 => k_is)
    (case k17 => k_is)
    (case a18 => k_is)
    (case l18 => k_is)
    (case c18 => k_is)
    (case k18 => k_is)
    (case a19 => k_is)
    (case l19 => k_is)
    (case c19 => k_is)
    (case k19 => k_is)
    (case a20 => k_is)
    (case l20 => k_is)
    (case c20 => k_is)
    (case k20 => k_is)
    (case a21 => k_is)
    (case l21 => k_is)
    (case c21 => k_is)
    (case k21 => k_is)
    (case a22 => k_is)
    (case l22 => k_is)
    (case c22 => k_is)
    (case k22 => k_is)
    (case a23 => k_is)
    (case l23 => k_is)
    (case c23 => k_is)
    (case k23 => k_is)
    (case a24 => k_is)
    (case l24 => k_is)
    (case c24 => k_is)
    (case k24 => k_is)
    (case a25 => k_is)
    (case l25 => k_is)
    (case c25 => k_is)
    (case k25 => k_is)
    (case a26 => k_is)
    (case l26 => k_is)
    (case c26 => k_is)
    (case k26 => k_is)
    (case a27 => k_is)
    (case l27 => k_is)
    (case c27 => k_is)
    (case k27 => k_is)
    (case a28 => k_is)
    (case l28 => k_is)
    (case c28 => k_is)
    (case k28 => k_is)
    (case a29 => k_is)
    (case l29 => k_is)
    (case c29 => k_is)
    (case k29 => k_is)
    (case a30 => k_is)
    (case l30 => k_is)
    (case c30 => k_is)
    (case k30 => k_is)
    (case a31 => k_is)
    (case l31 => k_is)
    (case c31 => k_is)
    (case k31 => k_is)
    (case a32 => k_is)
    (case l32 => k_is)
    (case c32 => k_is)
    (case k32 => k_is)
    (case a33 => k_is)
    (case l33 => k_is)
    (case c33 => k_is)
    (case k33 => k_is)
    (case a34 => k_is)
    (case l34 => k_is)
    (case c34 => k_is)
    (case k34 => k_is)
    (case z0 => k_is)
    (case z1 => k_is)
    (case z2 => k_is)
    (case z3 => k_is)
    (case z4 => k_is)
    (case z5 => k_is)
    (case z6 => k_is)
    (case z7 => k_is)
    (case z8 => k_is)
    (case z9 => k_is)
    (case z10 => k_is)
